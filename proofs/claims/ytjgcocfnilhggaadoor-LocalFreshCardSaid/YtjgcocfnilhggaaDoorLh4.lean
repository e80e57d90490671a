/- Texts of the proof of LocalFresh: what each Go function answers, and what the answers mean; no condition beyond each theorem's own. -/
import Derived.Test.YtjgcocfnilhggaaDoorLh3
set_option maxHeartbeats 16000000
set_option maxRecDepth 100000
set_option linter.unusedVariables false
set_option linter.unusedSimpArgs false
namespace Go.Proofs.YtjgcocfnilhggaaDoor.Q
open RowKit YtjgcocfnilhggaaDoorW.PrintWords YtjgcocfnilhggaaDoorW.PrintLast YtjgcocfnilhggaaDoorW.PrintMore
open Kd (R_lower R_slice R_alloc R_drewN R_drew R_mono R_far R_types R_reads' R_new' R_lt R_elder' R_base R_form R_celln R_putg R_after R_over' R_typed R_ne R_below R_putn)
attribute [local go_sem] max2_int min2_int max_two min_two max_three min_three max_four min_four
def copyL(l:List Int)(i:Int)(s:List Int):List Int:=splice l i.toNat (s.take (l.length-i.toNat))
theorem copyL_cur{w:World}{base:Nat}{ok:Nat->Prop}{g n c:Nat}{L:List Int}(h:Kd.R (Kd.int .u8) 5 w base ok (.slice (some ⟨g,0,none⟩) n c) L): ∃cur:List Value,w.heap[g]? =some (.cells cur.toArray 5 (0,0))/\cur.length=c/\n<=c/\n=L.length/\base<=g/\cur.take n=nums .u8 L/\c<=maxLen:=by
 have ho:=Kd.own_of_R h;rcases ho.2 with⟨h',_⟩|⟨g',cap',cur,h',D,hh,hle,hm,hsz,htk⟩
 ·cases h'
 ·injection h' with h1 h2 h3;injection h1 with h1;injection h1 with h1;subst h1 h2 h3;refine⟨cur.toList,by simpa using hh,by simpa using hsz,hle,rfl,D,?_,hm⟩;simpa[nums,encs]using htk
theorem copyL_splice{w w1:World}{base:Nat}{ok:Nat->Prop}{g n c off:Nat}{L seg:List Int}{cur:List Value}(h:Kd.R (Kd.int .u8) 5 w base ok (.slice (some ⟨g,0,none⟩) n c) L)(hg:w.heap[g]? =some (.cells cur.toArray 5 (0,0)))(hfit:off+seg.length<=L.length)
 (h1:w1.heap[g]? =some (.cells (splice cur off (nums .u8 seg)).toArray 5 (0,0))):Kd.R (Kd.int .u8) 5 w1 base ok (.slice (some ⟨g,0,none⟩) n c) (splice L off seg):=by
 obtain⟨cur',D,I,X,J,O,G,U⟩:=copyL_cur h;rw[hg]at D
 injection D with D;injection D with D;have hce:cur=cur':=by simpa using congrArg Array.toList D
 subst hce;have hls:(splice L off seg).length=n:=by rw[length_splice _ _ _ hfit,J]
 have hlc:(splice cur off (nums .u8 seg)).length=c:=by rw[length_splice _ _ _ (by simp[nums];omega),I]
 refine Kd.R_of_own ⟨by simp[encs],.inr ⟨g,c,(splice cur off (nums .u8 seg)).toArray,by rw[hls],O,h1,by omega,U,by simpa using hlc,?_⟩⟩ h.1;rw[hls,Nat.mul_one];show(splice cur off (nums .u8 seg)).take n=(splice L off seg).map _;unfold splice;rw[List.take_append,List.take_append,List.map_append,List.map_append];have e1:(nums .u8 seg).length=seg.length:=by simp[nums]
 rw[List.take_take,Nat.min_eq_right za,List.length_take,Nat.min_eq_left za,List.take_of_length_le (l:=nums .u8 seg) za,e1,List.take_drop];have e2:off+seg.length+(n-off-seg.length)=n:=by omega
 rw[e2];have e3:cur.take off=(L.take off).map (fun x=>Value.int .u8 x):=by
  have:(cur.take n).take off=(nums .u8 L).take off:=by rw[G]
  rw[List.take_take,Nat.min_eq_left za]at this
  rw[this,nums,List.map_take]
 have e4:(cur.take n).drop (off+seg.length)=(L.drop (off+seg.length)).map (fun x=>Value.int .u8 x):=by
  rw[G,nums,List.map_drop]
 rw[e3,e4];rfl
theorem copyL_event{P:Program}{ops:Array Oper}{rest:List Oper}{o:Oper}{a:Act}{Q:Exit->Act->World->Prop}{W:World}{base:Nat}{ok:Nat->Prop}{g n c:Nat}{L S:List Int}{sp dp:Option Addr}{sc dLen dCap:Nat}{d s:Operand}{dT sT:TypeId}(hgd:o.guard=none)
 (ho:o.op= .call { callee:= .builtin .copy,args:= #[d,s],argTypes:= #[dT,sT] }) (hu:P.underlying dT=some (.slice 5)) (hsz:(P.info? 5).map (·.size)=some 1)
 (h:Kd.R (Kd.int .u8) 5 W base ok (.slice (some ⟨g,0,none⟩) n c) L) (hS:Kd.C (Kd.int .u8) W sp S.length S) (i:Int) (h0:0<=i) (hi:i<(L.length:Int))
 (hd:a.eval d= .slice dp dLen dCap) (hs:a.eval s= .slice sp S.length sc) (hdp:dp=some ⟨g,i.toNat,none⟩) (hdl:dLen=L.length-i.toNat)
 (hk: ∀w' m,W.grownBy w' (some g)->Kd.R (Kd.int .u8) 5 w' base ok (.slice (some ⟨g,0,none⟩) n c) (copyL L i S)->wpList P ops Q rest (a.put o.dst (goInt m)) w'):wpList P ops Q (o::rest) a W:=by
 obtain⟨cur,hg,hcl,hnc,hnL,hbg,htk,hcm⟩:=copyL_cur h;have hseg:(S.take (L.length-i.toNat)).length=Nat.min S.length dLen:=by rw[List.length_take,hdl,Nat.min_comm]
 refine wpList_plain hgd fun K hK=>?_;rcases Nat.eq_zero_or_pos (Nat.min S.length dLen)with e|e
 ·have hrun:=run_copy_none (P:=P) W dT sT o.type 5 dp sp dLen dCap S.length sc hu hsz e;have hz:copyL L i S=L:=by
   have:S.take (L.length-i.toNat)= []:=List.length_eq_zero_iff.1 (hseg.trans e);unfold copyL splice;rw[this];simp
  unfold Oper.wp;simp[execOp,ho,resolve,invoke,builtin,hd,hs,hrun,Result.andThen];exact hK _ _ (hk W 0 ⟨rfl,rfl,rfl,Nat.le_refl _,fun _ _ _=>rfl⟩ (by rw[hz];exact h))
 ·have hSp:0<S.length:=Nat.lt_of_lt_of_le e (Nat.min_le_left _ _);obtain⟨ad,rfl,hc⟩:=hS.2.2 hSp;subst hdp;have hsrc: ∀j v,(nums .u8 (S.take (L.length-i.toNat)))[j]? =some v->W.cell? (ad.add j)=some v:=by
   intro j v hv;unfold nums at hv;rw[List.getElem?_map,Option.map_eq_some_iff]at hv
   obtain⟨x,hx,rfl⟩:=hv;rw[List.getElem?_take]at hx
   split at hx
   ·obtain⟨c1,_,rfl,hcell⟩:=hc j x hx;have:=hcell 0 _ rfl
    rwa [show(Kd.int .u8).sz=1 from rfl,Nat.mul_one,Nat.add_zero]at this
   ·cases hx
  have hfit:i.toNat+(nums .u8 (S.take (L.length-i.toNat))).length<=cur.length:=by
   have:(nums .u8 (S.take (L.length-i.toNat))).length=Nat.min S.length dLen:=by rw[<-hseg];simp[nums]
   have h2:Nat.min S.length dLen<=dLen:=Nat.min_le_right _ _;omega
  have hlen:(nums .u8 (S.take (L.length-i.toNat))).length=Nat.min S.length dLen:=by rw[<-hseg];simp[nums]
  have hrun:=run_copy_row (P:=P) W dT sT o.type 5 g i.toNat dLen dCap ad S.length sc cur.toArray 5 (nums .u8 (S.take (L.length-i.toNat))) hu hsz hg hlen hsrc (by simpa using hfit) (fun v hv=>by
   unfold nums at hv;obtain⟨x,_,rfl⟩:=List.mem_map.1 hv;rfl)
  unfold Oper.wp;simp[execOp,ho,resolve,invoke,builtin,hd,hs,hrun,Result.andThen];refine hK _ _ (hk _ _ ⟨rfl,rfl,rfl,by simp[World.setRow],fun k _ hk=>setRow_other W g k _ (fun e=>hk (by rw[e]))⟩ ?_);refine copyL_splice h hg (by rw[hseg];have:Nat.min S.length dLen<=dLen:=Nat.min_le_right _ _;omega) ?_;simpa[splice]using setRow_heap W g _ _ 5 _ hg
mutual
def recoupref04_Reduce.l0:Nat->List Int->Int->Int->Int->List Int->Option (Int×Int×List Int×List Int×Int)
 |0,_,_,_,_,_=>none
 |k+1,x6,x7,D,G,I=>if x7<G then(recoupref04_Reduce.j1 k x6 x7 (decide ((x6.length:Int)<D)) D G I)else(recoupref04_Reduce.j1 k x6 x7 false D G I)
def recoupref04_Reduce.j1:Nat->List Int->Int->Bool->Int->Int->List Int->Option (Int×Int×List Int×List Int×Int)
 |0,_,_,_,_,_,_=>none
 |k+1,x6,x7,J,D,G,I=>if J=true then(recoupref04_Reduce.l1 k x6 x7 (x6.length:Int) (x6.length:Int) D G I)else(some (D,G,I,x6,0))
def recoupref04_Reduce.j3:Nat->List Int->Int->Int->Int->Int->Int->List Int->Option (Int×Int×List Int×List Int×Int)
 |0,_,_,_,_,_,_,_=>none
 |k+1,x6,x7,x8,x9,D,G,I=>if x9=D then(recoupref04_Reduce.l0 k x6 (wrap64 (x7+1)) D G I)else(if 0<=D then(if(D:Int).toNat<=35184372088832 then(recoupref04_Reduce.l2 k x6 x7 x8 x9 (List.replicate (D:Int).toNat 0) 0 D G I)else(none))else(none))
def recoupref04_Reduce.l2:Nat->List Int->Int->Int->Int->List Int->Int->Int->Int->List Int->Option (Int×Int×List Int×List Int×Int)
 |0,_,_,_,_,_,_,_,_,_=>none
 |k+1,x6,x7,x8,x9,O,L,G,I,J=>if L<G then(if 0<=L then(if L<(O.length:Int)then(recoupref04_Reduce.l2 k x6 x7 x8 x9 (O.set (L:Int).toNat L) (wrap64 (L+1)) G I J)else(none))else(none))else(if 0<=x8 then(if x8<(O.length:Int)then(if 0<=x9 then(if x9<(O.length:Int)then((recoupref03_Pick.f k G I J ((O.set (x8:Int).toNat x9).set (x9:Int).toNat x8)).bind fun D=>((recoupref03_At.f D.1 D.2.1 D.2.2.1 x8 x7).bind fun Z=>((recoupref01_Inv.f k Z).bind fun X=>((recoupref03_Row.f k D.1 D.2.1 D.2.2.1 x8).bind fun Y=>((recoupref01_Scale.f k X.1 Y.1).bind fun U=>(if 0<=(wrap64 (x8*D.2.1))then(if(wrap64 (x8*D.2.1))<(D.2.2.1.length:Int)then(recoupref04_Reduce.l3 k x6 x7 x8 U 0 D.1 D.2.1 (copyL D.2.2.1 (wrap64 (x8*D.2.1)) U))else(none))else(none)))))))else(none))else(none))else(none))else(none))
def recoupref04_Reduce.l3:Nat->List Int->Int->Int->List Int->Int->Int->Int->List Int->Option (Int×Int×List Int×List Int×Int)
 |0,_,_,_,_,_,_,_,_=>none
 |k+1,x6,x7,x8,O,J,D,G,I=>if J<D then(if J=x8 then(recoupref04_Reduce.l3 k x6 x7 x8 O (wrap64 (J+1)) D G I)else((recoupref03_At.f D G I J x7).bind fun L=>(recoupref04_Reduce.l4 k x6 x7 x8 O J L 0 D G I)))else(if x6.length<17592186044416 then(recoupref04_Reduce.l0 k (x6++ [x7]) (wrap64 (x7+1)) D G I)else(none))
def recoupref04_Reduce.l4:Nat->List Int->Int->Int->List Int->Int->Int->Int->Int->Int->List Int->Option (Int×Int×List Int×List Int×Int)
 |0,_,_,_,_,_,_,_,_,_,_=>none
 |k+1,x6,x7,x8,O,L,X,I,J,D,G=>if I<D then(if 0<=(wrap64 ((wrap64 (L*D))+I))then(if(wrap64 ((wrap64 (L*D))+I))<(G.length:Int)then(if 0<=I then(if I<(O.length:Int)then((recoupref01_Mul.f k X (rd O I)).bind fun U=>(recoupref04_Reduce.l4 k x6 x7 x8 O L X (wrap64 (I+1)) J D (G.set ((wrap64 ((wrap64 (L*D))+I)):Int).toNat (Go.bits .xor .u8 (rd G (wrap64 ((wrap64 (L*D))+I))) U))))else(none))else(none))else(none))else(none))else(recoupref04_Reduce.l3 k x6 x7 x8 O (wrap64 (L+1)) J D G)
def recoupref04_Reduce.l1:Nat->List Int->Int->Int->Int->Int->Int->List Int->Option (Int×Int×List Int×List Int×Int)
 |0,_,_,_,_,_,_,_=>none
 |k+1,x6,x7,x8,x9,D,G,I=>if x9<D then((recoupref03_At.f D G I x9 x7).bind fun J=>(if J=0 then(recoupref04_Reduce.l1 k x6 x7 x8 (wrap64 (x9+1)) D G I)else(recoupref04_Reduce.j3 k x6 x7 x8 x9 D G I)))else(recoupref04_Reduce.j3 k x6 x7 x8 x9 D G I)
end
def recoupref04_Reduce.f(k:Nat)(G:Int)(I:Int)(J:List Int):Option (Int×Int×List Int×List Int×Int):=(recoupref03_Right.f G I J).bind fun L=>(if L=true then((recoupref03_Copy.f G I J).bind fun D=>(recoupref04_Reduce.l0 k ([]:List Int) 0 D.1 D.2.1 D.2.2))else(some (0,0,([]:List Int),([]:List Int),3)))
def recoupref04_Reduce.T32:Bool×List (List Nat×List Nat):=(true,[([],[]),([0],[0]),([],[]),([],[]),([3],[3]),([2,4],[2,4]),([],[]),([5,6],[5,6]),([1,7],[1,7]),([8],[8]),([],[]),([],[]),([],[]),([11,12],[11,12]),([13],[13]),([10,14],[10,14]),([9,15],[9,15]),([1,7,0,1,2,3,4,5,6,7,8,9,10,11,12,13,14,15,16],[1,7]),([17,16,15,0,1,2,3,4,5,6,7,8,9,10,11,12,13,14,15,16],[16,17])])
def recoupref04_Reduce.B32:List Nat:= [0,1,0,0,8,28,0,124,255,511,0,0,0,6144,14336,31744,65535,131071,262143]
theorem recoupref04_Reduce.tab32:rtab .any (opsOf Tryd.f96 32)=recoupref04_Reduce.T32:=by kernel_rfl
theorem recoupref04_Reduce.bits32:waitsOk recoupref04_Reduce.T32.2 recoupref04_Reduce.B32=true:=by kernel_rfl
theorem recoupref04_Reduce.calls(k:Nat)(au:Int)(av:Int)(az:Option Addr)(a0:Nat)(ar:List Int)(r1:Int)(r2:Int)(r3:List Int)(r4:List Int)(r5:Int)(w:World)(i1:Kd.C (Kd.int .u8) w az ar.length ar)(iz:ar.length<=a0)(h:recoupref04_Reduce.f k au av ar=some (r1,r2,r3,r4,r5)):
 Calls Tryd.prog 96 #[.agg #[.int .i64 au,.int .i64 av,.slice az ar.length a0]] w fun e w'=> ∃v2_ v3_:Value,e= .returned (.tuple #[.agg #[.int .i64 r1,.int .i64 r2,v2_],v3_,.int .i64 r5])/\Kd.R (Kd.int .u8) 5 w' w.heap.size (fun _=>True) v2_ r3/\Kd.R (Kd.int .i64) 3 w' w.heap.size (fun _=>True) v3_ r4/\Below w.heap.size w w':=by
 have rk:=Tryd.underlying24;have f0:=aK i1;have fy:=aK iz;clear i1 iz;have HB:=aK (Below.refl w.heap.size w);have H:((recoupref03_Right.f au av ar).bind fun i9=>(if i9=true then((recoupref03_Copy.f au av ar).bind fun f1=>(recoupref04_Reduce.l0 k ([]:List Int) 0 f1.1 f1.2.1 f1.2.2))else(some (0,0,([]:List Int),([]:List Int),3))))=some (r1,r2,r3,r4,r5):=h;clear h;obtain⟨i9,A2,H⟩:=bindO H
 (try dsimp only at H)
 by_cases c3:i9=true
 case neg=>
  replace c3:=Bool.eq_false_iff.mpr c3;subst c3;rw[if_neg nofT]at H
  simp only[Option.some.injEq,Prod.mk.injEq]at H;obtain⟨rfl,rfl,rfl,rfl,rfl⟩:=H
  go_enter Tryd.func96,Tryd.ntmps96
  go_wp2_with (first|((with_reducible refine gD 1 rfl ?_);(try(refine gate_guard ze ?_;dsimp only));refine bE 1 #[.int .i64 au,.int .i64 av,.slice az ar.length a0] 24 ?_;intro a2 hg rt hbox hb;have I:=aK (hbox);have j6:=hbS HB hg;have j2:=hbS HB hg;replace HB:=hbB HB hb;clear hb hbox hg)|((with_reducible refine gD 2 rfl ?_);(try(refine gate_guard ze ?_;dsimp only));refine bE 2 #[.int .i64 0,.int .i64 0,.slice none 0 0] 24 ?_;intro aq hg ru hbox hb;have J:=aK (hbox);have j7:=hbS HB hg;have j4:=hbS HB hg;replace HB:=hbB HB hb;have bs:=neL I hg;have bt:=neG I hg;replace I:=bkB I hb;clear hb hbox hg;have oa:=bs.out;have ou:=bt.out;obtain⟨lh,ll,lm,mb,mc,me⟩:=cell3 I)|((with_reducible refine gC 45 rfl ?_);refine cG (some 20) Tryd.func45 #[.agg #[.int .i64 au,.int .i64 av,.slice az ar.length a0]] ?_;(with_reducible refine(recoupref03_Right.calls au av _ _ ar false _ ?side1 ?side2 A2.out).mono ?_);(case side1=>exact kcB f0 HB);(case side2=>exact fy.out);rintro e rv ⟨rfl,hb⟩;refine⟨_,rfl,?_⟩;replace I:=bkB I hb;replace J:=bkB J hb;replace HB:=hbB HB hb;(try clear hb);obtain⟨ln,lp,lq,mf,mg,mh⟩:=cell3 J))
  refine bodyPost_ret (results_ctt rfl _ _ aq 24 #[.int .i64 0,.int .i64 0,.slice none 0 0] (0,0) _ rfl (by refine bkR ?_;refine blk_put (cs:= #[.int .i64 0,.int .i64 0,.slice none 0 0]) ?_ 2 _ rfl;refine bkR ?_;refine blk_put (cs:= #[.int .i64 0,.int .i64 0,.slice none 0 0]) ?_ 1 _ rfl;refine bkR ?_;refine blk_put (cs:= #[.int .i64 0,.int .i64 0,.slice none 0 0]) ?_ 0 _ rfl;refine bkR ?_;exact J.out) Tryd.underlying24 rfl zc) rfl ?_;exact⟨_,_,rfE,nilE,nilE,hbA HB.out⟩
 subst c3;rw[if_pos rfl]at H
 obtain⟨⟨fw,gn,gp⟩,A4,H⟩:=bindO H
 (try dsimp only at H)
 have H':=aK H;clear H
 go_enter Tryd.func96,Tryd.ntmps96
 go_wp2_with (first|((with_reducible refine gD 1 rfl ?_);(try(refine gate_guard ze ?_;dsimp only));refine bE 1 #[.int .i64 au,.int .i64 av,.slice az ar.length a0] 24 ?_;intro a2 hg w5 hbox hb;have I:=aK (hbox);have j6:=hbS HB hg;have j2:=hbS HB hg;replace HB:=hbB HB hb;clear hb hbox hg)|((with_reducible refine gD 2 rfl ?_);(try(refine gate_guard ze ?_;dsimp only));refine bE 2 #[.int .i64 0,.int .i64 0,.slice none 0 0] 24 ?_;intro aq hg w6 hbox hb;have J:=aK (hbox);have j7:=hbS HB hg;have j4:=hbS HB hg;replace HB:=hbB HB hb;have bs:=neL I hg;have bt:=neG I hg;replace I:=bkB I hb;clear hb hbox hg;have ri:=bs.out;have rj:=bt.out;obtain⟨bu,bv,bw,bx,bz,b0⟩:=cell3 I)|((with_reducible refine gC 45 rfl ?_);refine cG (some 20) Tryd.func45 #[.agg #[.int .i64 au,.int .i64 av,.slice az ar.length a0]] ?_;(with_reducible refine(recoupref03_Right.calls au av _ _ ar true _ ?side1 ?side2 A2.out).mono ?_);(case side1=>exact kcB f0 HB);(case side2=>exact fy.out);rintro e w9 ⟨rfl,hb⟩;refine⟨_,rfl,?_⟩;replace I:=bkB I hb;replace J:=bkB J hb;replace HB:=hbB HB hb;(try clear hb);obtain⟨a4,a5,a6,ba,bb,bc⟩:=cell3 I)|((with_reducible refine gC 24 rfl ?_);refine cG (some 24) Tryd.func24 #[.agg #[.int .i64 au,.int .i64 av,.slice az ar.length a0]] ?_;(with_reducible refine(recoupref03_Copy.calls au av _ _ ar fw gn gp _ ?side1 ?side2 A4.out).mono ?_);(case side1=>exact kcB f0 HB);(case side2=>exact fy.out);rintro e r0 ⟨rl,rfl,cf,hb⟩;refine⟨_,rfl,?_⟩;have eg:=aK (R_lower cf (below_size (hbA HB.out)));replace I:=bkB I hb;replace J:=bkB J hb;replace HB:=hbB HB hb;(try clear hb);(try clear cf))|((with_reducible refine gD 5 rfl ?_);(try(refine gate_guard ze ?_;dsimp only));refine bE 5 #[.int .i64 0,.int .i64 0,.slice none 0 0] 24 ?_;intro ax hg r6 hbox hb;replace eg:=kdB eg hb;have D:=aK (hbox);have oz:=hbS HB hg;have oy:=hbS HB hg;replace HB:=hbB HB hb;have X:=neL I hg;have aa:=neG I hg;replace I:=bkB I hb;have Y:=neL J hg;have ab:=neG J hg;replace J:=bkB J hb;clear hb hbox hg;have pc:=aa.out;have py:=X.out;have pd:=ab.out;have pz:=Y.out;obtain⟨a7,a8,a9,bd,be,bf⟩:=cell3 D;obtain⟨jj,jq,m1⟩:=R_slice eg.out;subst m1))
 go_loopg [6,7] k (fun kq v6 v7 w'=> ∃(O:List Int) (aj:Int) (G:Int) (U:Int) (L:List Int) (u161002:Value),v7= .int .i64 aj/\Aside0 (recoupref04_Reduce.l0 kq O aj G U L=some (r1,r2,r3,r4,r5))/\Aside0 (kq<=k)/\Aside0 (Kd.R (Kd.int .i64) 3 w' w.heap.size (fun _=>True) v6 O)/\Aside0 (Kd.R (Kd.int .u8) 5 w' w.heap.size (fun _=>True) u161002 L)/\Aside0 (w'.heap[a2]? =some (.cells #[.int .i64 au,.int .i64 av,(.slice az ar.length a0)] 24 (0,0)))/\Aside0 (w'.heap[aq]? =some (.cells #[.int .i64 0,.int .i64 0,(.slice none 0 0)] 24 (0,0)))/\Aside0 (w'.heap[ax]? =some (.cells #[.int .i64 G,.int .i64 U,u161002] 24 (0,0)))/\Aside0 (Below w.heap.size w w'))
 case atStart=>exact⟨(([]:List Int)),(0),(fw),(gn),(gp),(.slice jj gp.length jq),rsE,H',⟨Nat.le_refl _⟩,⟨nilE⟩,⟨by(with_reducible repeat(first|apply R_alloc|apply R_drewN|apply R_drew));exact R_mono (R_far (p:=⟨ax,2,none⟩) (R_far (p:=⟨ax,1,none⟩) (R_far (p:=⟨ax,0,none⟩) (R_types eg.out D.out zb) (fun _ hk=>hk.2) (.int .i64 fw)) (fun _ hk=>hk.2) (.int .i64 gn)) (fun _ hk=>hk.2) (.slice jj gp.length jq)) (fun _ hk=>trivial)⟩,⟨by refine bkR ?_;refine blk_far ?_ X.out _;refine bkR ?_;refine blk_far ?_ X.out _;refine bkR ?_;refine blk_far ?_ X.out _;refine bkR ?_;exact I.out⟩,⟨by refine bkR ?_;refine blk_far ?_ Y.out _;refine bkR ?_;refine blk_far ?_ Y.out _;refine bkR ?_;refine blk_far ?_ Y.out _;refine bkR ?_;exact J.out⟩,⟨by refine bkR ?_;refine blk_put (cs:= #[.int .i64 fw,.int .i64 gn,.slice none 0 0]) ?_ 2 _ rfl;refine bkR ?_;refine blk_put (cs:= #[.int .i64 fw,.int .i64 0,.slice none 0 0]) ?_ 1 _ rfl;refine bkR ?_;refine blk_put (cs:= #[.int .i64 0,.int .i64 0,.slice none 0 0]) ?_ 0 _ rfl;refine bkR ?_;exact D.out⟩,⟨hbA HB.out⟩⟩
 case round=>
  clear H'
  (try clear c1);(try clear c2);(try clear p2);(try clear c3);(try clear c4);(try clear c7);(try clear c9);(try clear gq);(try clear gr);(try clear a4 a5 a6 ba bb bc);(try clear a7 a8 a9 bd be bf);(try clear bu bv bw bx bz b0)
  obtain⟨O,aj,G,U,L,u161002,rfl,HA,b6,HO_6,HO_161002,I,J,D,HB⟩:=hrel
  cases gk with
  |zero=>exact absurd HA.out (by simp[recoupref04_Reduce.l0])
  |succ k1=>
   have H:=HA.out;clear HA;simp only[recoupref04_Reduce.l0]at H;have ic:=aK H;clear H
   go_upto_region 6 with(fail)
   go_cut [35] (fun qv wc=> ∃(kq:Nat) (dd:Bool),qv= .bool dd/\Aside0 (recoupref04_Reduce.j1 kq O aj dd G U L=some (r1,r2,r3,r4,r5))/\Aside0 (kq<=k1)/\Aside0 (Kd.R (Kd.int .i64) 3 wc w.heap.size (fun _=>True) u6 O)/\Aside0 (Kd.R (Kd.int .u8) 5 wc w.heap.size (fun _=>True) u161002 L)/\Aside0 (wc.heap[a2]? =some (.cells #[.int .i64 au,.int .i64 av,(.slice az ar.length a0)] 24 (0,0)))/\Aside0 (wc.heap[aq]? =some (.cells #[.int .i64 0,.int .i64 0,(.slice none 0 0)] 24 (0,0)))/\Aside0 (wc.heap[ax]? =some (.cells #[.int .i64 G,.int .i64 U,u161002] 24 (0,0)))/\Aside0 (Below w.heap.size w wc))
   case first=>
    have H:=ic.out;clear ic;by_cases dc:aj<U
    case neg=>
     rw[if_neg dc]at H
     have c18b0:decide (aj<U)=false:=decide_eq_false dc;clear dc
     (first|rw[c18b0] |(simp only[i64_w,i32_w];rw[c18b0])|skip)
     have H':=aK H;clear H;have pg:=aa.out;have p3:=X.out;have ph:=ab.out;have p4:=Y.out;obtain⟨bj,bk,bl,bp,bq,br⟩:=cell3 D;go_wp2
     go_meet
     case rel=>exact⟨_,(false),rsE,H',⟨by have:=b6.out;first|omega|exact Nat.le_refl _⟩,⟨kdA HO_6.out⟩,⟨kdA HO_161002.out⟩,⟨bkA I.out⟩,⟨bkA J.out⟩,⟨bkA D.out⟩,⟨hbA HB.out⟩⟩
    rw[if_pos dc]at H
    have c18b0:decide (aj<U)=true:=decide_eq_true dc;clear dc
    (first|rw[c18b0] |(simp only[i64_w,i32_w];rw[c18b0])|skip)
    have H':=aK H;clear H;have pe:=aa.out;have p0:=X.out;have pf:=ab.out;have p1:=Y.out;obtain⟨bg,bh,bi,bm,bn,bo⟩:=cell3 D;obtain⟨qx,re,m2⟩:=R_slice HO_6.out;subst m2;go_wp2
    go_meet
    case rel=>exact⟨_,(decide ((O.length:Int)<G)),rsE,H',⟨by have:=b6.out;first|omega|exact Nat.le_refl _⟩,⟨kdA HO_6.out⟩,⟨kdA HO_161002.out⟩,⟨bkA I.out⟩,⟨bkA J.out⟩,⟨bkA D.out⟩,⟨hbA HB.out⟩⟩
   case rest=>
    clear ic
    (try clear c1);(try clear c2);(try clear p2 p2);(try clear c3);(try clear c4);(try clear c7);(try clear c9);(try clear gq);(try clear gr);(try clear dc);(try clear c18b0);(try clear io);(try clear ip);(try clear iq);(try clear ir);(try clear a4 a5 a6 ba bb bc);(try clear a7 a8 a9 bd be bf);(try clear bg bh bi bm bn bo);(try clear bj bk bl bp bq br);(try clear bu bv bw bx bz b0)
    obtain⟨kq,dd,rfl,HA,a1,HO_6,HO_161002,I,J,D,HB⟩:=hcut
    cases kq with
    |zero=>exact absurd HA.out (by simp[recoupref04_Reduce.j1])
    |succ i2=>
     have H:=HA.out;clear HA;simp only[recoupref04_Reduce.j1]at H;by_cases ei:dd=true
     case neg=>
      replace ei:=Bool.eq_false_iff.mpr ei;subst ei;rw[if_neg nofT]at H
      simp only[Option.some.injEq,Prod.mk.injEq]at H;obtain⟨rfl,rfl,rfl,rfl,rfl⟩:=H;have n7:=aa.out;have oq:=X.out;have n8:=ab.out;have os:=Y.out;obtain⟨lb,lc,ld,l5,l6,l7⟩:=cell3 D;have n9:=bt.out;have ot:=bs.out;obtain⟨le,lf,lg,l8,l9,ma⟩:=cell3 J;obtain⟨fx,f5,kr⟩:=R_slice HO_161002.out;subst kr;go_wp2;refine bodyPost_ret (results_ctt rfl _ _ aq 24 #[.int .i64 G,.int .i64 U,.slice fx L.length f5] (0,0) _ rfl (by refine bkR ?_;refine blk_put (cs:= #[.int .i64 G,.int .i64 U,.slice none 0 0]) ?_ 2 _ rfl;refine bkR ?_;refine blk_put (cs:= #[.int .i64 G,.int .i64 0,.slice none 0 0]) ?_ 1 _ rfl;refine bkR ?_;refine blk_put (cs:= #[.int .i64 0,.int .i64 0,.slice none 0 0]) ?_ 0 _ rfl;refine bkR ?_;exact J.out) Tryd.underlying24 rfl zc) rfl ?_;exact⟨_,_,rfE,by(with_reducible repeat(first|apply R_alloc|apply R_drewN|apply R_drew));exact R_mono (R_far (p:=⟨aq,2,none⟩) (R_far (p:=⟨aq,1,none⟩) (R_far (p:=⟨aq,0,none⟩) (R_types HO_161002.out J.out zb) (fun _ hk=>hk.2) (.int .i64 G)) (fun _ hk=>hk.2) (.int .i64 U)) (fun _ hk=>hk.2) (.slice fx L.length f5)) (fun _ hk=>trivial),by(with_reducible repeat(first|apply R_alloc|apply R_drewN|apply R_drew));exact R_mono (R_far (p:=⟨aq,2,none⟩) (R_far (p:=⟨aq,1,none⟩) (R_far (p:=⟨aq,0,none⟩) (R_types HO_6.out J.out zb) (fun _ hk=>hk.2) (.int .i64 G)) (fun _ hk=>hk.2) (.int .i64 U)) (fun _ hk=>hk.2) (.slice fx L.length f5)) (fun _ hk=>trivial),hbA HB.out⟩
     subst ei;rw[if_pos rfl]at H
     have ie:=aK H;clear H;obtain⟨b1,b3,m3⟩:=R_slice HO_6.out;subst m3
     go_upto_block 2 with(fail)
     go_cut [9] (fun v9 wc=> ∃(kq:Nat) (af:Int),v9= .int .i64 af/\Aside0 (recoupref04_Reduce.j3 kq O aj (O.length:Int) af G U L=some (r1,r2,r3,r4,r5))/\Aside0 (kq<=i2)/\Aside0 (Kd.R (Kd.int .i64) 3 wc w.heap.size (fun _=>True) (.slice b1 O.length b3) O)/\Aside0 (Kd.R (Kd.int .u8) 5 wc w.heap.size (fun _=>True) u161002 L)/\Aside0 (wc.heap[a2]? =some (.cells #[.int .i64 au,.int .i64 av,(.slice az ar.length a0)] 24 (0,0)))/\Aside0 (wc.heap[aq]? =some (.cells #[.int .i64 0,.int .i64 0,(.slice none 0 0)] 24 (0,0)))/\Aside0 (wc.heap[ax]? =some (.cells #[.int .i64 G,.int .i64 U,u161002] 24 (0,0)))/\Aside0 (Below w.heap.size w wc))
     case first=>
      have H:=ie.out;clear ie;have H':=aK H;clear H;go_wp2
      go_loopg [9] i2 (fun kq v9 w'=> ∃(cg:Int),v9= .int .i64 cg/\Aside0 (recoupref04_Reduce.l1 kq O aj (O.length:Int) cg G U L=some (r1,r2,r3,r4,r5))/\Aside0 (kq<=i2)/\Aside0 (Kd.R (Kd.int .i64) 3 w' w.heap.size (fun _=>True) (.slice b1 O.length b3) O)/\Aside0 (Kd.R (Kd.int .u8) 5 w' w.heap.size (fun _=>True) u161002 L)/\Aside0 (w'.heap[a2]? =some (.cells #[.int .i64 au,.int .i64 av,(.slice az ar.length a0)] 24 (0,0)))/\Aside0 (w'.heap[aq]? =some (.cells #[.int .i64 0,.int .i64 0,(.slice none 0 0)] 24 (0,0)))/\Aside0 (w'.heap[ax]? =some (.cells #[.int .i64 G,.int .i64 U,u161002] 24 (0,0)))/\Aside0 (Below w.heap.size w w'))
      case atStart=>exact⟨((O.length:Int)),rsE,H',⟨Nat.le_refl _⟩,⟨kdA HO_6.out⟩,⟨kdA HO_161002.out⟩,⟨bkA I.out⟩,⟨bkA J.out⟩,⟨bkA D.out⟩,⟨hbA HB.out⟩⟩
      case round=>
       clear H'
       (try clear c1);(try clear c2);(try clear p2 p2);(try clear c3);(try clear c4);(try clear c7);(try clear c9);(try clear gq);(try clear gr);(try clear dc);(try clear c18b0);(try clear io);(try clear ip);(try clear iq);(try clear ir);(try clear ei);(try clear a4 a5 a6 ba bb bc);(try clear a7 a8 a9 bd be bf);(try clear bg bh bi bm bn bo);(try clear bj bk bl bp bq br);(try clear bu bv bw bx bz b0)
       obtain⟨cg,rfl,HA,jf,HO_6,HO_161002,I,J,D,HB⟩:=hrel
       cases gk with
       |zero=>exact absurd HA.out (by simp[recoupref04_Reduce.l1])
       |succ k3=>
        have H:=HA.out;clear HA;simp only[recoupref04_Reduce.l1]at H;by_cases eb:cg<G
        case neg=>
         rw[if_neg eb]at H
         have c29b0:decide (cg<G)=false:=decide_eq_false eb;clear eb
         (first|rw[c29b0] |(simp only[i64_w,i32_w];rw[c29b0])|skip)
         have H':=aK H;clear H;have pm:=aa.out;have qc:=X.out;have pn:=ab.out;have qd:=Y.out;obtain⟨cn,co,cp,cx,cy,cz⟩:=cell3 D;go_wp2
         go_meet
         case rel=>exact⟨_,(cg),rsE,H',⟨by have:=b6.out;have:=a1.out;have:=jf.out;first|omega|exact Nat.le_refl _⟩,⟨kdA HO_6.out⟩,⟨kdA HO_161002.out⟩,⟨bkA I.out⟩,⟨bkA J.out⟩,⟨bkA D.out⟩,⟨hbA HB.out⟩⟩
        rw[if_pos eb]at H
        have c29b0:decide (cg<G)=true:=decide_eq_true eb;clear eb
        (first|rw[c29b0] |(simp only[i64_w,i32_w];rw[c29b0])|skip)
        obtain⟨d2,ml,H⟩:=bindO H
        (try dsimp only at H)
        by_cases df:d2=0
        case neg=>
         rw[if_neg df]at H
         have c31b0:(d2==0)=false:=beq_eq_false_iff_ne.mpr df;have c31b1:(d2 !=0)=true:=bne_iff_ne.mpr df;have H':=aK H;clear H;have pk:=aa.out;have qa:=X.out;have pl:=ab.out;have qb:=Y.out;obtain⟨ck,cl,cm,cu,cv,cw⟩:=cell3 D;obtain⟨qz,rg,m5⟩:=R_slice HO_161002.out;subst m5
         go_wp2_with (first|(go_at_call 49;(with_reducible refine(recoupref03_At.calls G U _ _ L cg aj d2 _ ?side1 ?side2 ml.out).mono ?_);(case side1=>exact kcA (R_reads' HO_161002.out).2.2);(case side2=>exact(R_reads' HO_161002.out).2.1);rintro e r8 ⟨rfl,hb⟩;replace HO_6:=kdB HO_6 hb;replace HO_161002:=kdB HO_161002 hb;replace I:=bkB I hb;replace J:=bkB J hb;replace D:=bkB D hb;replace HB:=hbB HB hb;(try clear hb)))
         go_meet
         case rel=>exact⟨_,(cg),rsE,H',⟨by have:=b6.out;have:=a1.out;have:=jf.out;first|omega|exact Nat.le_refl _⟩,⟨kdA HO_6.out⟩,⟨kdA HO_161002.out⟩,⟨bkA I.out⟩,⟨bkA J.out⟩,⟨bkA D.out⟩,⟨hbA HB.out⟩⟩
        rw[if_pos df]at H
        have c31b0:(d2==0)=true:=beq_iff_eq.mpr df;have c31b1:(d2 !=0)=false:=bne_eq_false_iff_eq.mpr df;clear df;have H':=aK H;clear H;have pi:=aa.out;have p8:=X.out;have pj:=ab.out;have p9:=Y.out;obtain⟨ch,ci,cj,cq,cr,ct⟩:=cell3 D;obtain⟨qy,rf,m4⟩:=R_slice HO_161002.out;subst m4
        go_wp2_with (first|(go_at_call 49;(with_reducible refine(recoupref03_At.calls G U _ _ L cg aj d2 _ ?side1 ?side2 ml.out).mono ?_);(case side1=>exact kcA (R_reads' HO_161002.out).2.2);(case side2=>exact(R_reads' HO_161002.out).2.1);rintro e r7 ⟨rfl,hb⟩;replace HO_6:=kdB HO_6 hb;replace HO_161002:=kdB HO_161002 hb;replace I:=bkB I hb;replace J:=bkB J hb;replace D:=bkB D hb;replace HB:=hbB HB hb;(try clear hb)))
        go_roundg k3
        case measure=>have:=b6.out;have:=a1.out;have:=jf.out;omega
        case rel=>exact⟨(wrap64 (cg+1)),rsE,H',⟨by have:=b6.out;have:=a1.out;have:=jf.out;omega⟩,⟨kdA HO_6.out⟩,⟨kdA HO_161002.out⟩,⟨bkA I.out⟩,⟨bkA J.out⟩,⟨bkA D.out⟩,⟨hbA HB.out⟩⟩
     case rest=>
      clear ie
      (try clear c1);(try clear c2);(try clear p2 p2);(try clear c3);(try clear c4);(try clear p6);(try clear c7);(try clear c9);(try clear gq);(try clear gr);(try clear dc);(try clear c18b0);(try clear io);(try clear ip);(try clear iq);(try clear ir);(try clear ei);(try clear eb);(try clear c29b0);(try clear df);(try clear c31b0);(try clear c31b1);(try clear ki);(try clear kj);(try clear kk);(try clear km);(try clear kn);(try clear ko);(try clear a4 a5 a6 ba bb bc);(try clear a7 a8 a9 bd be bf);(try clear bg bh bi bm bn bo);(try clear bj bk bl bp bq br);(try clear ch ci cj cq cr ct);(try clear ck cl cm cu cv cw);(try clear cn co cp cx cy cz);(try clear bu bv bw bx bz b0)
      obtain⟨kq,af,rfl,HA,b2,HO_6,HO_161002,I,J,D,HB⟩:=hcut
      cases kq with
      |zero=>exact absurd HA.out (by simp[recoupref04_Reduce.j3])
      |succ gm=>
       have H:=HA.out;clear HA;simp only[recoupref04_Reduce.j3]at H;by_cases ec:af=G
       ·rw[if_pos ec]at H
        have c45b0:(af==G)=true:=beq_iff_eq.mpr ec;have c45b1:(af !=G)=false:=bne_eq_false_iff_eq.mpr ec;clear ec;have H':=aK H;clear H;have po:=aa.out;have qe:=X.out;have pp:=ab.out;have qf:=Y.out;obtain⟨dg,dh,di,dm,dn,dp⟩:=cell3 D;go_wp2
        go_roundg gm
        case measure=>have:=b6.out;have:=a1.out;have:=b2.out;omega
        case rel=>exact⟨(O),(wrap64 (aj+1)),(G),(U),(L),(u161002),rsE,H',⟨by have:=b6.out;have:=a1.out;have:=b2.out;omega⟩,⟨kdA HO_6.out⟩,⟨kdA HO_161002.out⟩,⟨bkA I.out⟩,⟨bkA J.out⟩,⟨bkA D.out⟩,⟨hbA HB.out⟩⟩
       rw[if_neg ec]at H
       have c45b0:(af==G)=false:=beq_eq_false_iff_ne.mpr ec;have c45b1:(af !=G)=true:=bne_iff_ne.mpr ec;by_cases eo:0<=G
       case neg=>rw[if_neg eo]at H;exact absurd H zd
       rw[if_pos eo]at H
       have c49b0:=eq_true eo;have c49b1:decide (0<=G)=true:=decide_eq_true eo;clear eo;by_cases ep:(G:Int).toNat<=35184372088832
       case neg=>rw[if_neg ep]at H;exact absurd H zd
       rw[if_pos ep]at H
       have c50b0:=eq_true ep;have c50b1:decide ((G:Int).toNat<=35184372088832)=true:=decide_eq_true ep;clear ep;obtain⟨jy,dv⟩: ∃y_:List Int,y_=(List.replicate (G:Int).toNat 0):=⟨_,rfl⟩
       replace H:(recoupref04_Reduce.l2 gm O aj (O.length:Int) af jy 0 G U L)=some (r1,r2,r3,r4,r5):=zH dv H
       have il:=aK dv;clear dv;have H':=aK H;clear H;have pq:=aa.out;have qg:=X.out;have pr:=ab.out;have qh:=Y.out;obtain⟨dj,dk,dl,dq,dr,dt⟩:=cell3 D
       go_wp2_with (first|((with_reducible refine gate_dst (N:=60) rfl ?_);(try(refine gate_guard ze ?_;dsimp only));refine Kd.R_make (Kd.int .i64) _ 3 rfl (N:=60) rfl 56 _ _ rfl G rfl rfl Tryd.underlying56 (.int .i64 0) 8 info3 rfl zb za 0 (ok:=fun _=>True) (okp:=fun _=>True) rfl (fun _ hk=>hk) trivial (of_decide_eq_true asE) (Nat.le_trans (Nat.mul_le_mul_right _ (of_decide_eq_true asE:G.toNat<=35184372088832)) za) (Below.refl _ _) (Nat.le_refl _) ?_;intro jx r9 ef hb hg_ hnew_;clear hg_ hnew_;(first|rw[<-il.out]at ef|(simp only[Int.reduceToNat]at ef;rw[<-il.out]at ef));replace HO_161002:=kdB HO_161002 hb;have j8:=aK (R_lower (R_new' ef (R_lt (kdA HO_6.out))) (below_size (hbA HB.out)));replace HO_6:=aK (R_elder' (kdA HO_6.out) (R_base ef) hb);replace I:=bkB I hb;replace J:=bkB J hb;replace D:=bkB D hb;replace HB:=hbB HB hb;clear hb ef))
       go_loopg [11] gm (fun kq qr w'=> ∃(ac:List Int) (an:Int),qr= .int .i64 an/\Aside0 (recoupref04_Reduce.l2 kq O aj (O.length:Int) af ac an G U L=some (r1,r2,r3,r4,r5))/\Aside0 (kq<=gm)/\Aside0 (Kd.R (Kd.int .i64) 3 w' w.heap.size (fun k_=>some k_≠(jx:Value).ownBlock) (.slice b1 O.length b3) O)/\Aside0 (Kd.R (Kd.int .i64) 3 w' w.heap.size (fun k_=>some k_≠((.slice b1 O.length b3):Value).ownBlock) jx ac)/\Aside0 (Kd.R (Kd.int .u8) 5 w' w.heap.size (fun _=>True) u161002 L)/\Aside0 (w'.heap[a2]? =some (.cells #[.int .i64 au,.int .i64 av,(.slice az ar.length a0)] 24 (0,0)))/\Aside0 (w'.heap[aq]? =some (.cells #[.int .i64 0,.int .i64 0,(.slice none 0 0)] 24 (0,0)))/\Aside0 (w'.heap[ax]? =some (.cells #[.int .i64 G,.int .i64 U,u161002] 24 (0,0)))/\Aside0 (Below w.heap.size w w'))
       case atStart=>exact⟨(jy),(0),rsE,H',⟨Nat.le_refl _⟩,⟨by(with_reducible repeat(first|apply R_alloc|apply R_drewN|apply R_drew));exact R_mono HO_6.out (fun _ hk=>hk.2)⟩,⟨by(with_reducible repeat(first|apply R_alloc|apply R_drewN|apply R_drew));exact R_mono j8.out (fun _ hk=>hk.2)⟩,⟨kdA HO_161002.out⟩,⟨bkA I.out⟩,⟨bkA J.out⟩,⟨bkA D.out⟩,⟨hbA HB.out⟩⟩
       case round=>
        clear H'
        (try clear c1);(try clear c2);(try clear p2 p2);(try clear c3);(try clear c4);(try clear c5);(try clear p6 p6);(try clear c7);(try clear c9);(try clear gq);(try clear gr);(try clear dc);(try clear c18b0);(try clear io);(try clear ip);(try clear iq);(try clear ir);(try clear ei);(try clear eb);(try clear c29b0);(try clear df);(try clear c31b0);(try clear c31b1);(try clear ki);(try clear kj);(try clear kk);(try clear km);(try clear kn);(try clear ko);(try clear ec);(try clear c45b0);(try clear c45b1);(try clear mv);(try clear mw);(try clear eo);(try clear c49b0);(try clear c49b1);(try clear ep);(try clear c50b0);(try clear c50b1);(try clear mx);(try clear my);(try clear a4 a5 a6 ba bb bc);(try clear a7 a8 a9 bd be bf);(try clear bg bh bi bm bn bo);(try clear bj bk bl bp bq br);(try clear ch ci cj cq cr ct);(try clear ck cl cm cu cv cw);(try clear cn co cp cx cy cz);(try clear dg dh di dm dn dp);(try clear dj dk dl dq dr dt);(try clear bu bv bw bx bz b0)
        obtain⟨ac,an,rfl,HA,ea,HO_6,HO_10,HO_161002,I,J,D,HB⟩:=hrel
        cases gk with
        |zero=>exact absurd HA.out (by simp[recoupref04_Reduce.l2])
        |succ k4=>
         have H:=HA.out;clear HA;simp only[recoupref04_Reduce.l2]at H;by_cases er:an<G
         ·rw[if_pos er]at H
          have c56b0:decide (an<G)=true:=decide_eq_true er;clear er;by_cases gs:0<=an
          case neg=>rw[if_neg gs]at H;exact absurd H zd
          rw[if_pos gs]at H
          have c57b0:decide (0<=an)=true:=decide_eq_true gs;clear gs;by_cases gt:an<(ac.length:Int)
          case neg=>rw[if_neg gt]at H;exact absurd H zd
          rw[if_pos gt]at H
          have c58b0:decide (an<(ac.length:Int))=true:=decide_eq_true gt;clear gt;obtain⟨jc,dw⟩: ∃y_:List Int,y_=(ac.set (an:Int).toNat an):=⟨_,rfl⟩
          replace H:(recoupref04_Reduce.l2 k4 O aj (O.length:Int) af jc (wrap64 (an+1)) G U L)=some (r1,r2,r3,r4,r5):=zH dw H
          have kb:=aK dw;clear dw;have H':=aK H;clear H;have pt:=aa.out;have qi:=X.out;have pv:=ab.out;have qj:=Y.out;obtain⟨et,eu,ev,fb,fc,fd⟩:=cell3 D;have p59:0<=(an:Int):=of_decide_eq_true asE;have f7:(an:Int)<((ac.length:Int):Int):=of_decide_eq_true asE;obtain⟨ee,gh,jr,ju,m9,ra,jl⟩:=R_form HO_10.out za
          (first|cases jr|(injection jr with ea_ en_ ec_;(first|subst ea_|(injection ea_ with ea_;subst ea_));subst ec_;clear en_))
          have mt:=aK ju;have q0:=aK jl;clear ju m9 jl;obtain⟨gi,nu⟩:=R_celln 0 HO_10.out (an:Int) p59 f7;replace p59:=eq_true p59;replace f7:=eq_true f7;have ii:=R_putg HO_10.out (an:Int) an
          go_wp2_with (first|((with_reducible refine gate_store (t:=3) (p:=70) rfl ?_);refine store_event (t:=3) (p:=70) (v:=?vo_w64) (w1:=(wr.setCell ⟨ee,(an:Int).toNat,none⟩ (.int .i64 an))) ?hg ?ho ?hn ?hr ?_;(case ho=>rfl);(case hg=>rfl);(case hn=>rfl);(case hr=>first|(go_simp;done)|(go_simp;rfl));intro w64 hw;have hg:wr.grownBy w64 (some ee):=(by rw[hw];exact ii.2);have hp_:Kd.R (Kd.int .i64) 3 w64 w.heap.size (fun k_=>some k_≠(.slice b1 O.length b3:Value).ownBlock) (.slice (some ⟨ee,0,none⟩) ac.length gh) jc:=(by rw[hw,kb.out];exact ii.1);clear ii;replace HO_6:=aK (R_after (v:=(.slice (some ⟨ee,0,none⟩) ac.length gh)) (v1:=(.slice (some ⟨ee,0,none⟩) ac.length gh)) (ok:=(fun _=>True)) (by(with_reducible repeat(first|apply R_alloc|apply R_drewN|apply R_drew));exact R_mono HO_6.out (fun _ hk=>⟨trivial,hk⟩)) hg (.inl rfl));replace HO_161002:=aK (R_over' (v:=(.slice (some ⟨ee,0,none⟩) ac.length gh)) (kdA HO_161002.out) (R_typed HO_10.out) zb hg);replace I:=bkG I hg (R_ne HO_10.out I.out zb);replace J:=bkG J hg (R_ne HO_10.out J.out zb);replace D:=bkG D hg (R_ne HO_10.out D.out zb);replace HO_10:=aK (hp_);replace HB:=aK ((by rw[hw];exact below_set (HB.out) mt.out:Below w.heap.size w w64));clear hg hw hp_))
          go_roundg k4
          case measure=>have:=b6.out;have:=a1.out;have:=b2.out;have:=ea.out;omega
          case rel=>exact⟨(jc),(wrap64 (an+1)),rsE,H',⟨by have:=b6.out;have:=a1.out;have:=b2.out;have:=ea.out;omega⟩,⟨by(with_reducible repeat(first|apply R_alloc|apply R_drewN|apply R_drew));exact R_mono HO_6.out (fun _ hk=>hk.2)⟩,⟨kdA HO_10.out⟩,⟨kdA HO_161002.out⟩,⟨bkA I.out⟩,⟨bkA J.out⟩,⟨bkA D.out⟩,⟨hbA HB.out⟩⟩
         rw[if_neg er]at H
         have c56b0:decide (an<G)=false:=decide_eq_false er;clear er;by_cases gu:0<=(O.length:Int)
         case neg=>rw[if_neg gu]at H;exact absurd H zd
         rw[if_pos gu]at H
         have c65b0:decide (0<=(O.length:Int))=true:=decide_eq_true gu;have c65b1:decide (0<=O.length)=true:=decide_eq_true za;clear gu;by_cases f4:(O.length:Int)<(ac.length:Int)
         case neg=>rw[if_neg f4]at H;exact absurd H zd
         rw[if_pos f4]at H
         have c66b0:decide ((O.length:Int)<(ac.length:Int))=true:=decide_eq_true f4;have c66b1:decide (O.length<ac.length)=true:=decide_eq_true (Int.ofNat_lt.mp f4);clear f4;obtain⟨jd,dx⟩: ∃y_:List Int,y_=(ac.set ((O.length:Int):Int).toNat af):=⟨_,rfl⟩
         replace H:(if 0<=af then(if af<(ac.length:Int)then((recoupref03_Pick.f k4 G U L (jd.set (af:Int).toNat (O.length:Int))).bind fun ag=>((recoupref03_At.f ag.1 ag.2.1 ag.2.2.1 (O.length:Int) aj).bind fun d3=>((recoupref01_Inv.f k4 d3).bind fun f2=>((recoupref03_Row.f k4 ag.1 ag.2.1 ag.2.2.1 (O.length:Int)).bind fun f3=>((recoupref01_Scale.f k4 f2.1 f3.1).bind fun b5=>(if 0<=(wrap64 ((O.length:Int)*ag.2.1))then(if(wrap64 ((O.length:Int)*ag.2.1))<(ag.2.2.1.length:Int)then(recoupref04_Reduce.l3 k4 O aj (O.length:Int) b5 0 ag.1 ag.2.1 (copyL ag.2.2.1 (wrap64 ((O.length:Int)*ag.2.1)) b5))else(none))else(none)))))))else(none))else(none))=some (r1,r2,r3,r4,r5):=zH dx H
         have kc:=aK dx;clear dx;by_cases gv:0<=af
         case neg=>rw[if_neg gv]at H;exact absurd H zd
         rw[if_pos gv]at H
         have c68b0:decide (0<=af)=true:=decide_eq_true gv;clear gv;by_cases gw:af<(ac.length:Int)
         case neg=>rw[if_neg gw]at H;exact absurd H zd
         rw[if_pos gw]at H
         have c69b0:decide (af<(ac.length:Int))=true:=decide_eq_true gw;clear gw;obtain⟨d9,dy⟩: ∃y_:List Int,y_=(jd.set (af:Int).toNat (O.length:Int)):=⟨_,rfl⟩
         replace H:((recoupref03_Pick.f k4 G U L d9).bind fun ag=>((recoupref03_At.f ag.1 ag.2.1 ag.2.2.1 (O.length:Int) aj).bind fun d3=>((recoupref01_Inv.f k4 d3).bind fun f2=>((recoupref03_Row.f k4 ag.1 ag.2.1 ag.2.2.1 (O.length:Int)).bind fun f3=>((recoupref01_Scale.f k4 f2.1 f3.1).bind fun b5=>(if 0<=(wrap64 ((O.length:Int)*ag.2.1))then(if(wrap64 ((O.length:Int)*ag.2.1))<(ag.2.2.1.length:Int)then(recoupref04_Reduce.l3 k4 O aj (O.length:Int) b5 0 ag.1 ag.2.1 (copyL ag.2.2.1 (wrap64 ((O.length:Int)*ag.2.1)) b5))else(none))else(none)))))))=some (r1,r2,r3,r4,r5):=zH dy H
         have kd:=aK dy;clear dy;obtain⟨⟨am,ah,ai,nq⟩,mm,H⟩:=bindO H
         (try dsimp only at H)
         obtain⟨d3,mo,H⟩:=bindO H
         (try dsimp only at H)
         obtain⟨⟨ja,nr⟩,mq,H⟩:=bindO H
         (try dsimp only at H)
         obtain⟨⟨d4,nt⟩,mr,H⟩:=bindO H
         (try dsimp only at H)
         obtain⟨b5,ms,H⟩:=bindO H
         (try dsimp only at H)
         obtain⟨b4,ce⟩: ∃j_:Int,(wrap64 ((O.length:Int)*ah))=j_:=⟨_,rfl⟩
         replace H:(if 0<=(b4)then(if(b4)<(ai.length:Int)then(recoupref04_Reduce.l3 k4 O aj (O.length:Int) b5 0 am ah (copyL ai (b4) b5))else(none))else(none))=some (r1,r2,r3,r4,r5):=by first|(rw[ce]at H;exact H)|(simp only[ce]at H⊢;exact H)
         (try rw[ce]at mm)
         (try rw[ce]at mo)
         (try rw[ce]at mq)
         (try rw[ce]at mr)
         (try rw[ce]at ms)
         have hji76w:(IntKind.i64.wrap ((O.length:Int)*ah))=b4:=(i64_w _).trans ce;by_cases gx:0<=(b4)
         case neg=>rw[if_neg gx]at H;exact absurd H zd
         rw[if_pos gx]at H
         have c77b0:decide (0<=(b4))=true:=decide_eq_true gx;clear gx;by_cases gy:(b4)<(ai.length:Int)
         case neg=>rw[if_neg gy]at H;exact absurd H zd
         rw[if_pos gy]at H
         have c78b0:decide ((b4)<(ai.length:Int))=true:=decide_eq_true gy;clear gy;obtain⟨je,dz⟩: ∃y_:List Int,y_=(copyL ai (b4) b5):=⟨_,rfl⟩
         replace H:(recoupref04_Reduce.l3 k4 O aj (O.length:Int) b5 0 am ah je)=some (r1,r2,r3,r4,r5):=zH dz H
         have ke:=aK dz;clear dz;have H':=aK H;clear H;have pw:=aa.out;have qk:=X.out;have px:=ab.out;have ql:=Y.out;obtain⟨ew,ex,ey,fe,ff,fg⟩:=cell3 D;have p67:0<=((O.length:Int):Int):=of_decide_eq_true asE;have f8:((O.length:Int):Int)<((ac.length:Int):Int):=of_decide_eq_true asE;obtain⟨a3,ca,js,jv,na,rb,jo⟩:=R_form HO_10.out za
         (first|cases js|(injection js with ea_ en_ ec_;(first|subst ea_|(injection ea_ with ea_;subst ea_));subst ec_;clear en_))
         have jk:=aK jv;have q1:=aK jo;clear jv na jo;obtain⟨el,ji⟩:=R_celln 0 HO_10.out ((O.length:Int):Int) p67 f8;replace p67:=eq_true p67;replace f8:=eq_true f8;have ku:=el;have kt:=ji;simp only[Int.toNat_natCast]at ku kt;have ij:=R_putg HO_10.out ((O.length:Int):Int) af
         go_wp2_with (first|((with_reducible refine gate_store (t:=3) (p:=77) rfl ?_);refine store_event (t:=3) (p:=77) (v:=?vo_w84) (w1:=(wr.setCell ⟨a3,((O.length:Int):Int).toNat,none⟩ (.int .i64 af))) ?hg ?ho ?hn ?hr ?_;(case ho=>rfl);(case hg=>rfl);(case hn=>rfl);(case hr=>first|(go_simp;done)|(go_simp;rfl));intro jb hw;have hg:wr.grownBy jb (some a3):=(by rw[hw];exact ij.2);have hp_:Kd.R (Kd.int .i64) 3 jb w.heap.size (fun k_=>some k_≠(.slice b1 O.length b3:Value).ownBlock) (.slice (some ⟨a3,0,none⟩) ac.length ca) jd:=(by rw[hw,kc.out];exact ij.1);clear ij;replace HO_6:=aK (R_after (v:=(.slice (some ⟨a3,0,none⟩) ac.length ca)) (v1:=(.slice (some ⟨a3,0,none⟩) ac.length ca)) (ok:=(fun _=>True)) (by(with_reducible repeat(first|apply R_alloc|apply R_drewN|apply R_drew));exact R_mono HO_6.out (fun _ hk=>⟨trivial,hk⟩)) hg (.inl rfl));replace HO_161002:=aK (R_over' (v:=(.slice (some ⟨a3,0,none⟩) ac.length ca)) (kdA HO_161002.out) (R_typed HO_10.out) zb hg);replace I:=bkG I hg (R_ne HO_10.out I.out zb);replace J:=bkG J hg (R_ne HO_10.out J.out zb);replace D:=bkG D hg (R_ne HO_10.out D.out zb);replace HO_10:=aK (hp_);replace HB:=aK ((by rw[hw];exact below_set (HB.out) jk.out:Below w.heap.size w jb));clear hg hw hp_;have p70:0<=(af:Int):=of_decide_eq_true asE;have f9:(af:Int)<((ac.length:Int):Int):=of_decide_eq_true asE;obtain⟨gj,nv⟩:=R_celln 0 HO_10.out (af:Int) p70 f9;replace p70:=eq_true p70;replace f9:=eq_true f9;obtain⟨hy85_,hz85_⟩:=R_celln 0 HO_10.out (af:Int) (of_decide_eq_true asE) (of_decide_eq_true asE);have ik:=R_putg HO_10.out (af:Int) (O.length:Int))|((with_reducible refine gate_store (t:=3) (p:=78) rfl ?_);refine store_event (t:=3) (p:=78) (v:=?vo_w86) (w1:=(jb.setCell ⟨a3,(af:Int).toNat,none⟩ (.int .i64 (O.length:Int)))) ?hg ?ho ?hn ?hr ?_;(case ho=>rfl);(case hg=>rfl);(case hn=>rfl);(case hr=>first|(go_simp;done)|(go_simp;rfl));intro kv hw;have hg:jb.grownBy kv (some a3):=(by rw[hw];exact ik.2);have hp_:Kd.R (Kd.int .i64) 3 kv w.heap.size (fun k_=>some k_≠(.slice b1 O.length b3:Value).ownBlock) (.slice (some ⟨a3,0,none⟩) ac.length ca) d9:=(by rw[hw,kd.out];exact ik.1);clear ik;replace HO_6:=aK (R_after (v:=(.slice (some ⟨a3,0,none⟩) ac.length ca)) (v1:=(.slice (some ⟨a3,0,none⟩) ac.length ca)) (ok:=(fun _=>True)) (kdA HO_6.out) hg (.inl rfl));replace HO_161002:=aK (R_over' (v:=(.slice (some ⟨a3,0,none⟩) ac.length ca)) (kdA HO_161002.out) (R_typed HO_10.out) zb hg);replace I:=bkG I hg (R_ne HO_10.out I.out zb);replace J:=bkG J hg (R_ne HO_10.out J.out zb);replace D:=bkG D hg (R_ne HO_10.out D.out zb);replace HO_10:=aK (hp_);replace HB:=aK ((by rw[hw];exact below_set (HB.out) jk.out:Below w.heap.size w kv));clear hg hw hp_;obtain⟨ez,e0,e1,fh,fi,fj⟩:=cell3 D;obtain⟨b7,cb,m6⟩:=R_slice HO_161002.out;subst m6)|((with_reducible refine gC 43 rfl ?_);refine goesL_ (some 82) rfl rfl Tryd.func43 zc rfl #[.agg #[.int .i64 G,.int .i64 U,.slice b7 L.length cb],.slice (some ⟨a3,0,none⟩) d9.length ca] rfl (by(try simp only[List.map_toArray,List.map_cons,List.map_nil]);first|done|(rw[show d9.length=ac.length from(R_reads' HO_10.out).1.symm]<;>rfl)|rfl|(simp only[List.length_drop,List.length_take];rfl)) ?_;(with_reducible refine(recoupref03_Pick.calls k4 G U _ _ L _ _ d9 am ah ai nq _ ?side1 ?side2 ?side3 ?side4 mm.out).mono ?_);(case side1=>exact kcA (R_reads' HO_161002.out).2.2);(case side2=>exact(R_reads' HO_161002.out).2.1);(case side3=>exact kcA (R_reads' HO_10.out).2.2);(case side4=>rw[show d9.length=ac.length from(R_reads' HO_10.out).1.symm];exact(R_reads' HO_10.out).2.1);rintro e sa ⟨rm,rfl,cf,hb⟩;refine⟨_,rfl,?_⟩;replace HO_6:=kdB HO_6 hb;replace HO_10:=kdB HO_10 hb;have ae:=aK (R_lower (R_new' cf (R_lt (kdA HO_161002.out))) (below_size (hbA HB.out)));replace HO_161002:=aK (R_elder' (kdA HO_161002.out) (R_base cf) hb);replace I:=bkB I hb;replace J:=bkB J hb;replace D:=bkB D hb;replace HB:=hbB HB hb;(try clear hb);(try clear cf);obtain⟨e2,e3,e4,fk,fl,fm⟩:=cell3 D;obtain⟨b8,aw,m7⟩:=R_slice ae.out;subst m7)|((with_reducible refine gC 49 rfl ?_);refine cG (some 89) Tryd.func49 #[.agg #[.int .i64 am,.int .i64 ah,.slice b8 ai.length aw],.int .i64 (O.length:Int),.int .i64 aj] ?_;(with_reducible refine(recoupref03_At.calls am ah _ _ ai (O.length:Int) aj d3 _ ?side1 ?side2 mo.out).mono ?_);(case side1=>refine(R_reads' (e:=5) (base:=w.heap.size) (ok:=fun k_=>(True/\some k_≠(.slice b7 L.length cb:Value).ownBlock)) (n:=ai.length) (c:=aw) ?_).2.2;exact(by(with_reducible repeat(first|apply R_alloc|apply R_drewN|apply R_drew));exact(zF ae.out D.out  (.int .i64 am)  (.int .i64 ah)  (.slice b8 ai.length aw))));(case side2=>exact(R_reads' ae.out).2.1);rintro e d7 ⟨rfl,hb⟩;refine⟨_,rfl,?_⟩;replace HO_6:=aK (R_below (by(with_reducible repeat(first|apply R_alloc|apply R_drewN|apply R_drew));exact(zF HO_6.out D.out  (.int .i64 am)  (.int .i64 ah)  (.slice b8 ai.length aw))) hb);replace HO_10:=aK (R_below (by(with_reducible repeat(first|apply R_alloc|apply R_drewN|apply R_drew));exact(zF HO_10.out D.out  (.int .i64 am)  (.int .i64 ah)  (.slice b8 ai.length aw))) hb);replace HO_161002:=aK (R_below (by(with_reducible repeat(first|apply R_alloc|apply R_drewN|apply R_drew));exact(zF HO_161002.out D.out  (.int .i64 am)  (.int .i64 ah)  (.slice b8 ai.length aw))) hb);replace ae:=aK (R_below (by(with_reducible repeat(first|apply R_alloc|apply R_drewN|apply R_drew));exact(zF ae.out D.out  (.int .i64 am)  (.int .i64 ah)  (.slice b8 ai.length aw))) hb);replace I:=aK (blk_below (g:=a2) (o:= .cells #[.int .i64 au,.int .i64 av,.slice az ar.length a0] 24 (0,0)) (by refine bkR ?_;refine blk_far ?_ X.out _;refine bkR ?_;refine blk_far ?_ X.out _;refine bkR ?_;refine blk_far ?_ X.out _;refine bkR ?_;exact I.out) hb);replace J:=aK (blk_below (g:=aq) (o:= .cells #[.int .i64 0,.int .i64 0,.slice none 0 0] 24 (0,0)) (by refine bkR ?_;refine blk_far ?_ Y.out _;refine bkR ?_;refine blk_far ?_ Y.out _;refine bkR ?_;refine blk_far ?_ Y.out _;refine bkR ?_;exact J.out) hb);replace D:=aK (blk_below (g:=ax) (o:= .cells #[.int .i64 am,.int .i64 ah,.slice b8 ai.length aw] 24 (0,0)) (by refine bkR ?_;refine blk_put (cs:= #[.int .i64 am,.int .i64 ah,.slice b7 L.length cb]) ?_ 2 _ rfl;refine bkR ?_;refine blk_put (cs:= #[.int .i64 am,.int .i64 U,.slice b7 L.length cb]) ?_ 1 _ rfl;refine bkR ?_;refine blk_put (cs:= #[.int .i64 G,.int .i64 U,.slice b7 L.length cb]) ?_ 0 _ rfl;refine bkR ?_;exact D.out) hb);replace HB:=hbB HB hb;(try clear hb))|((with_reducible refine gC 113 rfl ?_);refine cG (some 90) Tryd.func113 #[.int .u8 d3] ?_;(with_reducible refine(recoupref01_Inv.calls k4 d3 ja nr _ mq.out).mono ?_);rintro e w' ⟨rfl,⟨nd,rfl⟩⟩;refine⟨_,rfl,?_⟩;(try(rw[drewN_self d7];generalize hq_:World.drewN d7 _=d7;have n0_:Aside0 (Kd.R (Kd.int .u8) 5 d7 w.heap.size (fun k_=>some k_≠(.slice b7 L.length cb:Value).ownBlock) (.slice b8 ai.length aw) ai):=⟨by rw[<-hq_];exact(by(with_reducible repeat(first|apply R_alloc|apply R_drewN|apply R_drew));exact R_mono ae.out (fun _ hk=>hk.2))⟩;have n1_:Aside0 (Kd.R (Kd.int .i64) 3 d7 w.heap.size (fun k_=>some k_≠(.slice b1 O.length b3:Value).ownBlock) (.slice (some ⟨a3,0,none⟩) ac.length ca) d9):=⟨by rw[<-hq_];exact(kdA HO_10.out)⟩;have n2_:Aside0 (Kd.R (Kd.int .u8) 5 d7 w.heap.size (fun k_=>some k_≠(.slice b8 ai.length aw:Value).ownBlock) (.slice b7 L.length cb) L):=⟨by rw[<-hq_];exact(by(with_reducible repeat(first|apply R_alloc|apply R_drewN|apply R_drew));exact R_mono HO_161002.out (fun _ hk=>hk.2))⟩;have n3_:Aside0 (Kd.R (Kd.int .i64) 3 d7 w.heap.size (fun k_=>some k_≠(.slice (some ⟨a3,0,none⟩) ac.length ca:Value).ownBlock) (.slice b1 O.length b3) O):=⟨by rw[<-hq_];exact(by(with_reducible repeat(first|apply R_alloc|apply R_drewN|apply R_drew));exact R_mono HO_6.out (fun _ hk=>hk.2))⟩;have n4_:Aside0 (d7.heap[a2]? =some (.cells #[.int .i64 au,.int .i64 av,.slice az ar.length a0] 24 (0,0))):=⟨by rw[<-hq_];exact(bkA I.out)⟩;have n5_:Aside0 (d7.heap[aq]? =some (.cells #[.int .i64 0,.int .i64 0,.slice none 0 0] 24 (0,0))):=⟨by rw[<-hq_];exact(bkA J.out)⟩;have n6_:Aside0 (d7.heap[ax]? =some (.cells #[.int .i64 am,.int .i64 ah,.slice b8 ai.length aw] 24 (0,0))):=⟨by rw[<-hq_];exact(bkA D.out)⟩;have n7_:Aside0 (Below w.heap.size w d7):=⟨by rw[<-hq_];exact(hbA HB.out)⟩;clear ae HO_10 HO_161002 HO_6 I J D HB hq_;have ae:=n0_;have HO_10:=n1_;have HO_161002:=n2_;have HO_6:=n3_;have I:=n4_;have J:=n5_;have D:=n6_;have HB:=n7_;clear n0_ n1_ n2_ n3_ n4_ n5_ n6_ n7_));obtain⟨e5,e6,e7,fo,fp,fq⟩:=cell3 D)|((with_reducible refine gC 21 rfl ?_);refine cG (some 96) Tryd.func21 #[.agg #[.int .i64 am,.int .i64 ah,.slice b8 ai.length aw],.int .i64 (O.length:Int)] ?_;(with_reducible refine(recoupref03_Row.calls k4 am ah _ _ ai (O.length:Int) d4 nt _ ?side1 ?side2 mr.out).mono ?_);(case side1=>exact kcA (R_reads' ae.out).2.2);(case side2=>exact(R_reads' ae.out).2.1);rintro e sb ⟨rn,rfl,cf,hb⟩;refine⟨_,rfl,?_⟩;replace HO_6:=kdB HO_6 hb;replace HO_10:=kdB HO_10 hb;have b9:=aK (R_lower (R_new' (R_new' cf (R_lt (kdA HO_161002.out))) (R_lt (kdA ae.out))) (below_size (hbA HB.out)));replace HO_161002:=aK (R_elder' (kdA HO_161002.out) (R_base cf) hb);replace ae:=aK (R_elder' (kdA ae.out) (R_base cf) hb);replace I:=bkB I hb;replace J:=bkB J hb;replace D:=bkB D hb;replace HB:=hbB HB hb;(try clear hb);(try clear cf);obtain⟨em,es,m8⟩:=R_slice b9.out;subst m8)|((with_reducible refine gC 114 rfl ?_);refine cG (some 101) Tryd.func114 #[.int .u8 ja,.slice em d4.length es] ?_;(with_reducible refine(recoupref01_Scale.calls k4 ja _ _ d4 b5 _ ?side1 ?side2 ms.out).mono ?_);(case side1=>exact kcA (R_reads' b9.out).2.2);(case side2=>exact(R_reads' b9.out).2.1);rintro e qw ⟨db,rfl,cf,hb⟩;refine⟨_,rfl,?_⟩;replace HO_6:=kdB HO_6 hb;replace HO_10:=kdB HO_10 hb;have eh:=aK (R_lower (R_new' (R_new' (R_new' cf (R_lt (kdA HO_161002.out))) (R_lt (kdA ae.out))) (R_lt (kdA b9.out))) (below_size (hbA HB.out)));replace HO_161002:=aK (R_elder' (kdA HO_161002.out) (R_base cf) hb);replace ae:=aK (R_elder' (kdA ae.out) (R_base cf) hb);replace b9:=aK (R_elder' (kdA b9.out) (R_base cf) hb);replace I:=bkB I hb;replace J:=bkB J hb;replace D:=bkB D hb;replace HB:=hbB HB hb;(try clear hb);(try clear cf);obtain⟨e8,e9,fa,fs,ft,fu⟩:=cell3 D;have f6:0<=((b4):Int):=of_decide_eq_true asE;have ga:((b4):Int)<((ai.length:Int):Int):=of_decide_eq_true asE;obtain⟨cd,rh,jt,jw,nb,rc,jp⟩:=R_form ae.out za;(first|cases jt|(injection jt with ea_ en_ ec_;(first|subst ea_|(injection ea_ with ea_;subst ea_));subst ec_;clear en_));have mu:=aK jw;have q2:=aK jp;clear jw nb jp;obtain⟨gl,nw⟩:=R_celln 0 ae.out ((b4):Int) f6 ga;replace f6:=eq_true f6;replace ga:=eq_true ga;have n_:=aK (R_mono (ok':=(fun k_=>some k_≠(.slice b7 L.length cb:Value).ownBlock/\some k_≠(.slice em d4.length es:Value).ownBlock/\some k_≠(db:Value).ownBlock)) ae.out (by first|exact fun k_ hk=>⟨hk.1.1.2,⟨hk.1.2,hk.2⟩⟩|exact fun k_ hk=>⟨hk.1.1,⟨hk.1.2,hk.2⟩⟩));clear ae;have ae:=n_;clear n_;have qp:=of_decide_eq_true c77b0;have np:=of_decide_eq_true c78b0;obtain⟨jn,rfl⟩:=Int.eq_ofNat_of_zero_le qp;have ry:=(R_reads' ae.out).2.1;have qq:jn<ai.length:=Int.ofNat_lt.1 np;have rz:jn<=ai.length:=Nat.le_of_lt qq)|((with_reducible refine gate_builtin (b:= .copy) (xs:= #[.tmp 108,.tmp 109]) rfl ?_);obtain⟨sA,sc,eS,_,hS⟩:=Kd.R_reads eh.out;refine copyL_event (d:= .tmp 108) (s:= .tmp 109) (dT:=22) (sT:=22) rfl rfl Tryd.underlying22 zc ae.out hS (jn:Int) (Int.natCast_nonneg jn) np rfl eS rfl rfl ?_;intro kw jm hg ni;clear eS hS;have hg:qw.grownBy kw (some cd):=hg;have hp_:Kd.R (Kd.int .u8) 5 kw w.heap.size (fun k_=>some k_≠(.slice b7 L.length cb:Value).ownBlock/\some k_≠(.slice em d4.length es:Value).ownBlock/\some k_≠(db:Value).ownBlock) (.slice (some ⟨cd,0,none⟩) ai.length aw) je:=(by rw[ke.out];exact ni);replace HO_6:=aK (R_over' (v:=(.slice (some ⟨cd,0,none⟩) ai.length aw)) (kdA HO_6.out) (R_typed ae.out) zb hg);replace HO_10:=aK (R_over' (v:=(.slice (some ⟨cd,0,none⟩) ai.length aw)) (kdA HO_10.out) (R_typed ae.out) zb hg);replace HO_161002:=aK (R_after (v:=(.slice (some ⟨cd,0,none⟩) ai.length aw)) (v1:=(.slice (some ⟨cd,0,none⟩) ai.length aw)) (ok:=(fun k_=>some k_≠(.slice em d4.length es:Value).ownBlock/\some k_≠(db:Value).ownBlock)) (by(with_reducible repeat(first|apply R_alloc|apply R_drewN|apply R_drew));exact R_mono HO_161002.out (by first|exact fun _ hk=>⟨⟨hk.1.2,hk.2⟩,hk.1.1.2⟩|exact fun _ hk=>⟨⟨hk.1.2,hk.2⟩,hk.1.1⟩)) hg (.inl rfl));replace I:=bkG I hg (R_ne ae.out I.out zb);replace J:=bkG J hg (R_ne ae.out J.out zb);replace D:=bkG D hg (R_ne ae.out D.out zb);replace ae:=aK (hp_);replace b9:=aK (R_after (v:=(.slice (some ⟨cd,0,none⟩) ai.length aw)) (v1:=(.slice (some ⟨cd,0,none⟩) ai.length aw)) (ok:=(fun k_=>some k_≠(.slice b7 L.length cb:Value).ownBlock/\some k_≠(db:Value).ownBlock)) (by(with_reducible repeat(first|apply R_alloc|apply R_drewN|apply R_drew));exact R_mono b9.out (fun _ hk=>⟨⟨hk.1.1.2,hk.2⟩,hk.1.2⟩)) hg (.inl rfl));replace eh:=aK (R_after (v:=(.slice (some ⟨cd,0,none⟩) ai.length aw)) (v1:=(.slice (some ⟨cd,0,none⟩) ai.length aw)) (ok:=(fun k_=>some k_≠(.slice b7 L.length cb:Value).ownBlock/\some k_≠(.slice em d4.length es:Value).ownBlock)) (by(with_reducible repeat(first|apply R_alloc|apply R_drewN|apply R_drew));exact R_mono eh.out (fun _ hk=>⟨⟨hk.1.1.2,hk.2⟩,hk.1.2⟩)) hg (.inl rfl));replace HB:=aK ((HB.out.grown hg HB.out.size (fun k_ hk_=>by injection hk_ with hk_;rw[<-hk_];exact mu.out):Below w.heap.size w kw));clear hg ni hp_))
         go_loopg [16] k4 (fun kq qt w'=> ∃(d8:List Int) (ap:Int) (ao:List Int) (u161002:Value),qt= .int .i64 ap/\Aside0 (recoupref04_Reduce.l3 kq O aj (O.length:Int) d8 ap am ah ao=some (r1,r2,r3,r4,r5))/\Aside0 (kq<=k4)/\Aside0 (Kd.R (Kd.int .i64) 3 w' w.heap.size (fun _=>True) (.slice b1 O.length b3) O)/\Aside0 (Kd.R (Kd.int .u8) 5 w' w.heap.size (fun k_=>some k_≠(u161002:Value).ownBlock) db d8)/\Aside0 (Kd.R (Kd.int .u8) 5 w' w.heap.size (fun k_=>some k_≠(db:Value).ownBlock) u161002 ao)/\Aside0 (w'.heap[a2]? =some (.cells #[.int .i64 au,.int .i64 av,(.slice az ar.length a0)] 24 (0,0)))/\Aside0 (w'.heap[aq]? =some (.cells #[.int .i64 0,.int .i64 0,(.slice none 0 0)] 24 (0,0)))/\Aside0 (w'.heap[ax]? =some (.cells #[.int .i64 am,.int .i64 ah,u161002] 24 (0,0)))/\Aside0 (Below w.heap.size w w'))
         case atStart=>exact⟨(b5),(0),(je),(.slice (some ⟨cd,0,none⟩) ai.length aw),rsE,H',⟨Nat.le_refl _⟩,⟨by(with_reducible repeat(first|apply R_alloc|apply R_drewN|apply R_drew));exact R_mono HO_6.out (fun _ hk=>trivial)⟩,⟨by(with_reducible repeat(first|apply R_alloc|apply R_drewN|apply R_drew));exact R_mono eh.out (fun _ hk=>hk.2)⟩,⟨by(with_reducible repeat(first|apply R_alloc|apply R_drewN|apply R_drew));exact R_mono ae.out (fun _ hk=>hk.2.2)⟩,⟨bkA I.out⟩,⟨bkA J.out⟩,⟨bkA D.out⟩,⟨hbA HB.out⟩⟩
         case round=>
          clear H'
          (try clear c1);(try clear c2);(try clear p2 p2);(try clear c3);(try clear c4);(try clear c5);(try clear p5);(try clear q5);(try clear qm);(try clear o9);(try clear c6);(try clear p6 p6);(try clear q6);(try clear qn);(try clear pa);(try clear c7);(try clear p7);(try clear q7);(try clear qo);(try clear pb);(try clear c8);(try clear c9);(try clear o0);(try clear gq);(try clear gr);(try clear dc);(try clear c18b0);(try clear io);(try clear ip);(try clear o1);(try clear iq);(try clear ir);(try clear ei);(try clear eb);(try clear c29b0);(try clear df);(try clear c31b0);(try clear c31b1);(try clear ki);(try clear kj);(try clear kk);(try clear km);(try clear kn);(try clear ko);(try clear ec);(try clear c45b0);(try clear c45b1);(try clear mv);(try clear mw);(try clear eo);(try clear c49b0);(try clear c49b1);(try clear ep);(try clear c50b0);(try clear c50b1);(try clear mx);(try clear my);(try clear er);(try clear c56b0);(try clear gs);(try clear c57b0);(try clear gt);(try clear c58b0);(try clear p59 p59);(try clear f7 f7);(try clear nk);(try clear ne);(try clear o2);(try clear o3);(try clear p64);(try clear gu);(try clear c65b0);(try clear c65b1);(try clear f4);(try clear c66b0);(try clear c66b1);(try clear p67 p67);(try clear f8 f8);(try clear nl);(try clear nf);(try clear gv);(try clear c68b0);(try clear gw);(try clear c69b0);(try clear p70 p70);(try clear f9 f9);(try clear nm);(try clear ng);(try clear gx);(try clear c77b0);(try clear gy);(try clear c78b0);(try clear f6 f6);(try clear ga ga);(try clear nn);(try clear nh);(try clear o4);(try clear o5);(try clear a4 a5 a6 ba bb bc);(try clear a7 a8 a9 bd be bf);(try clear bg bh bi bm bn bo);(try clear bj bk bl bp bq br);(try clear ch ci cj cq cr ct);(try clear ck cl cm cu cv cw);(try clear cn co cp cx cy cz);(try clear dg dh di dm dn dp);(try clear dj dk dl dq dr dt);(try clear et eu ev fb fc fd);(try clear ew ex ey fe ff fg);(try clear ez e0 e1 fh fi fj);(try clear bu bv bw bx bz b0);(try clear e2 e3 e4 fk fl fm);(try clear e5 e6 e7 fo fp fq);(try clear e8 e9 fa fs ft fu);(try clear gi);(try clear el);(try clear gj);(try clear gl)
          obtain⟨d8,ap,ao,u161002,rfl,HA,en,HO_6,HO_14,HO_161002,I,J,D,HB⟩:=hrel
          cases gk with
          |zero=>exact absurd HA.out (by simp[recoupref04_Reduce.l3])
          |succ k5=>
           have H:=HA.out;clear HA;simp only[recoupref04_Reduce.l3]at H;by_cases de:ap<am
           case neg=>
            rw[if_neg de]at H
            have c100b0:decide (ap<am)=false:=decide_eq_false de;clear de;by_cases gg:O.length<17592186044416
            case neg=>rw[if_neg gg]at H;exact absurd H zd
            rw[if_pos gg]at H
            have jh:=aK gg;clear gg;obtain⟨jz,d0⟩: ∃y_:List Int,y_=(O++ [aj]):=⟨_,rfl⟩
            replace H:(recoupref04_Reduce.l0 k5 jz (wrap64 (aj+1)) am ah ao)=some (r1,r2,r3,r4,r5):=zH d0 H
            have kf:=aK d0;clear d0;have H':=aK H;clear H;have n5:=aa.out;have oo:=X.out;have n6:=ab.out;have op:=Y.out;obtain⟨k8,k9,la,lx,ly,lz⟩:=cell3 D
            go_wp2_with (first|((with_reducible refine gate_builtin (b:= .append) (xs:= #[.tmp 148,.tmp 150]) rfl ?_);(try(refine gate_guard ze ?_;dsimp only));at_builtin;refine Kd.R_append (Kd.int .i64) (w0:=w) w.heap.size rfl (.tmp 148) (.tmp 150) 56 3 (.int .i64 0) 8 rfl Tryd.underlying56 info3 rfl zb za (.slice b1 O.length b3) O aj [.int .i64 aj] (fun _=>True) (fun _=>False) rfl rfl ?aP (fun _ hk=>hk.elim) ?aF ?aO ?aB ?aS ?aL ?_;(case aP=>exact rfl);(case aB=>exact(hbA HB.out));(case aF=>exact(fun _ _=>trivial));(case aO=>exact(kdA HO_6.out));(case aS=>exact(below_size (hbA HB.out)));(case aL=>have:=jh.out;omega);intro ro rr ho hb hg hat;rw[<-kf.out]at ho;have n0_:=aK (R_over' (kdA HO_14.out) (R_typed (kdA HO_6.out)) zb hg);have n1_:=aK (R_over' (kdA HO_161002.out) (R_typed (kdA HO_6.out)) zb hg);have n2_:=aK (blk_grown (g:=a2) (o:= .cells #[.int .i64 au,.int .i64 av,.slice az ar.length a0] 24 (0,0)) (bkA I.out) hg (R_ne HO_6.out I.out zb));have n3_:=aK (blk_grown (g:=aq) (o:= .cells #[.int .i64 0,.int .i64 0,.slice none 0 0] 24 (0,0)) (bkA J.out) hg (R_ne HO_6.out J.out zb));have n4_:=aK (blk_grown (g:=ax) (o:= .cells #[.int .i64 am,.int .i64 ah,u161002] 24 (0,0)) (bkA D.out) hg (R_ne HO_6.out D.out zb));have n5_:=aK (hb);have n6_:=aK (ho);clear HO_14;clear HO_161002;clear I;clear J;clear D;clear HB;clear HO_6;have HO_14:=n0_;have HO_161002:=n1_;have I:=n2_;have J:=n3_;have D:=n4_;have HB:=n5_;have j9:=n6_;clear n0_ n1_ n2_ n3_ n4_ n5_ n6_;clear ho hb hg hat))
            go_roundg k5
            case measure=>have:=b6.out;have:=a1.out;have:=b2.out;have:=ea.out;have:=en.out;omega
            case rel=>exact⟨(jz),(wrap64 (aj+1)),(am),(ah),(ao),(u161002),rsE,H',⟨by have:=b6.out;have:=a1.out;have:=b2.out;have:=ea.out;have:=en.out;omega⟩,⟨kdA j9.out⟩,⟨by(with_reducible repeat(first|apply R_alloc|apply R_drewN|apply R_drew));exact R_mono HO_161002.out (fun _ hk=>trivial)⟩,⟨bkA I.out⟩,⟨bkA J.out⟩,⟨bkA D.out⟩,⟨hbA HB.out⟩⟩
           rw[if_pos de]at H
           have c100b0:decide (ap<am)=true:=decide_eq_true de;clear de;by_cases da:ap=(O.length:Int)
           ·rw[if_pos da]at H
            have c101b0:(ap==(O.length:Int))=true:=beq_iff_eq.mpr da;have c101b1:(ap !=(O.length:Int))=false:=bne_eq_false_iff_eq.mpr da;clear da;have H':=aK H;clear H;have nx:=aa.out;have ob:=X.out;have ny:=ab.out;have oc:=Y.out;obtain⟨gz,g0,g1,g5,g6,g7⟩:=cell3 D;go_wp2
            go_roundg k5
            case measure=>have:=b6.out;have:=a1.out;have:=b2.out;have:=ea.out;have:=en.out;omega
            case rel=>exact⟨(d8),(wrap64 (ap+1)),(ao),(u161002),rsE,H',⟨by have:=b6.out;have:=a1.out;have:=b2.out;have:=ea.out;have:=en.out;omega⟩,⟨kdA HO_6.out⟩,⟨kdA HO_14.out⟩,⟨kdA HO_161002.out⟩,⟨bkA I.out⟩,⟨bkA J.out⟩,⟨bkA D.out⟩,⟨hbA HB.out⟩⟩
           rw[if_neg da]at H
           have c101b0:(ap==(O.length:Int))=false:=beq_eq_false_iff_ne.mpr da;have c101b1:(ap !=(O.length:Int))=true:=bne_iff_ne.mpr da;obtain⟨d5,mi,H⟩:=bindO H
           (try dsimp only at H)
           have H':=aK H;clear H;have nz:=aa.out;have od:=X.out;have n0:=ab.out;have oe:=Y.out;obtain⟨g2,g3,g4,g8,g9,ia⟩:=cell3 D;obtain⟨ib,it,kp⟩:=R_slice HO_161002.out;subst kp
           go_wp2_with (first|((with_reducible refine gC 49 rfl ?_);refine cG (some 123) Tryd.func49 #[.agg #[.int .i64 am,.int .i64 ah,.slice ib ao.length it],.int .i64 ap,.int .i64 aj] ?_;(with_reducible refine(recoupref03_At.calls am ah _ _ ao ap aj d5 _ ?side1 ?side2 mi.out).mono ?_);(case side1=>exact kcA (R_reads' HO_161002.out).2.2);(case side2=>exact(R_reads' HO_161002.out).2.1);rintro e rp ⟨rfl,hb⟩;refine⟨_,rfl,?_⟩;replace HO_6:=kdB HO_6 hb;replace HO_14:=kdB HO_14 hb;replace HO_161002:=kdB HO_161002 hb;replace I:=bkB I hb;replace J:=bkB J hb;replace D:=bkB D hb;replace HB:=hbB HB hb;(try clear hb)))
           go_loopg [18] k5 (fun kq qu w'=> ∃(ay:List Int) (al:Int) (Z:List Int) (u161002:Value),qu= .int .i64 al/\Aside0 (recoupref04_Reduce.l4 kq O aj (O.length:Int) ay ap d5 al am ah Z=some (r1,r2,r3,r4,r5))/\Aside0 (kq<=k5)/\Aside0 (Kd.R (Kd.int .i64) 3 w' w.heap.size (fun _=>True) (.slice b1 O.length b3) O)/\Aside0 (Kd.R (Kd.int .u8) 5 w' w.heap.size (fun k_=>some k_≠(u161002:Value).ownBlock) db ay)/\Aside0 (Kd.R (Kd.int .u8) 5 w' w.heap.size (fun k_=>some k_≠(db:Value).ownBlock) u161002 Z)/\Aside0 (w'.heap[a2]? =some (.cells #[.int .i64 au,.int .i64 av,(.slice az ar.length a0)] 24 (0,0)))/\Aside0 (w'.heap[aq]? =some (.cells #[.int .i64 0,.int .i64 0,(.slice none 0 0)] 24 (0,0)))/\Aside0 (w'.heap[ax]? =some (.cells #[.int .i64 am,.int .i64 ah,u161002] 24 (0,0)))/\Aside0 (Below w.heap.size w w'))
           case atStart=>exact⟨(d8),(0),(ao),(.slice ib ao.length it),rsE,H',⟨Nat.le_refl _⟩,⟨kdA HO_6.out⟩,⟨kdA HO_14.out⟩,⟨kdA HO_161002.out⟩,⟨bkA I.out⟩,⟨bkA J.out⟩,⟨bkA D.out⟩,⟨hbA HB.out⟩⟩
           case round=>
            clear H'
            (try clear c1);(try clear c2);(try clear p2 p2);(try clear c3);(try clear c4);(try clear c5);(try clear p5 p5);(try clear q5 q5);(try clear qm);(try clear o9);(try clear c6);(try clear p6 p6);(try clear q6 q6);(try clear qn);(try clear pa);(try clear c7);(try clear p7 p7);(try clear q7 q7);(try clear qo);(try clear pb);(try clear c8);(try clear c9);(try clear rx);(try clear o0);(try clear gq);(try clear gr);(try clear dc);(try clear c18b0);(try clear io);(try clear ip);(try clear o1);(try clear iq);(try clear ir);(try clear ei);(try clear eb);(try clear c29b0);(try clear df);(try clear c31b0);(try clear c31b1);(try clear ki);(try clear kj);(try clear kk);(try clear km);(try clear kn);(try clear ko);(try clear ec);(try clear c45b0);(try clear c45b1);(try clear mv);(try clear mw);(try clear eo);(try clear c49b0);(try clear c49b1);(try clear ep);(try clear c50b0);(try clear c50b1);(try clear mx);(try clear my);(try clear er);(try clear c56b0);(try clear gs);(try clear c57b0);(try clear gt);(try clear c58b0);(try clear p59 p59);(try clear f7 f7);(try clear nk);(try clear ne);(try clear o2);(try clear o3);(try clear p64 p64);(try clear gu);(try clear c65b0);(try clear c65b1);(try clear f4);(try clear c66b0);(try clear c66b1);(try clear p67 p67);(try clear f8 f8);(try clear nl);(try clear nf);(try clear gv);(try clear c68b0);(try clear gw);(try clear c69b0);(try clear p70 p70);(try clear f9 f9);(try clear nm);(try clear ng);(try clear gx);(try clear c77b0);(try clear gy);(try clear c78b0);(try clear f6 f6);(try clear ga ga);(try clear nn);(try clear nh);(try clear o4);(try clear o5);(try clear de);(try clear c100b0);(try clear da);(try clear c101b0);(try clear c101b1);(try clear q3);(try clear q4);(try clear q8);(try clear q9);(try clear gz g0 g1 g5 g6 g7);(try clear g2 g3 g4 g8 g9 ia);(try clear a4 a5 a6 ba bb bc);(try clear a7 a8 a9 bd be bf);(try clear bg bh bi bm bn bo);(try clear bj bk bl bp bq br);(try clear ch ci cj cq cr ct);(try clear ck cl cm cu cv cw);(try clear cn co cp cx cy cz);(try clear dg dh di dm dn dp);(try clear dj dk dl dq dr dt);(try clear et eu ev fb fc fd);(try clear ew ex ey fe ff fg);(try clear ez e0 e1 fh fi fj);(try clear bu bv bw bx bz b0);(try clear e2 e3 e4 fk fl fm);(try clear e5 e6 e7 fo fp fq);(try clear e8 e9 fa fs ft fu);(try clear gi);(try clear el);(try clear gj);(try clear gl)
            obtain⟨ay,al,Z,u161002,rfl,HA,jg,HO_6,HO_14,HO_161002,I,J,D,HB⟩:=hrel
            cases gk with
            |zero=>exact absurd HA.out (by simp[recoupref04_Reduce.l4])
            |succ k6=>
             have H:=HA.out;clear HA;simp only[recoupref04_Reduce.l4]at H;by_cases ed:al<ah
             case neg=>
              rw[if_neg ed]at H
              have c111b0:decide (al<ah)=false:=decide_eq_false ed;clear ed;have H':=aK H;clear H;have n3:=aa.out;have ol:=X.out;have n4:=ab.out;have om:=Y.out;obtain⟨k0,k2,k7,lu,lv,lw⟩:=cell3 D;go_wp2
              go_roundg k6
              case measure=>have:=b6.out;have:=a1.out;have:=b2.out;have:=ea.out;have:=en.out;have:=jg.out;omega
              case rel=>exact⟨(ay),(wrap64 (ap+1)),(Z),(u161002),rsE,H',⟨by have:=b6.out;have:=a1.out;have:=b2.out;have:=ea.out;have:=en.out;have:=jg.out;omega⟩,⟨kdA HO_6.out⟩,⟨kdA HO_14.out⟩,⟨kdA HO_161002.out⟩,⟨bkA I.out⟩,⟨bkA J.out⟩,⟨bkA D.out⟩,⟨hbA HB.out⟩⟩
             rw[if_pos ed]at H
             have c111b0:decide (al<ah)=true:=decide_eq_true ed;clear ed;obtain⟨ak,ek⟩: ∃j_:Int,(wrap64 ((wrap64 (ap*ah))+al))=j_:=⟨_,rfl⟩
             replace H:(if 0<=(ak)then(if(ak)<(Z.length:Int)then(if 0<=al then(if al<(ay.length:Int)then((recoupref01_Mul.f k6 d5 (rd ay al)).bind fun d6=>(recoupref04_Reduce.l4 k6 O aj (O.length:Int) ay ap d5 (wrap64 (al+1)) am ah (Z.set ((ak):Int).toNat (Go.bits .xor .u8 (rd Z (ak)) d6))))else(none))else(none))else(none))else(none))=some (r1,r2,r3,r4,r5):=by first|(rw[ek]at H;exact H)|(simp only[ek]at H⊢;exact H)
             have hji112w:(IntKind.i64.wrap ((wrap64 (ap*ah))+al))=ak:=(i64_w _).trans ek;by_cases gb:0<=(ak)
             case neg=>rw[if_neg gb]at H;exact absurd H zd
             rw[if_pos gb]at H
             have c113b0:decide (0<=(ak))=true:=decide_eq_true gb;clear gb;by_cases gc:(ak)<(Z.length:Int)
             case neg=>rw[if_neg gc]at H;exact absurd H zd
             rw[if_pos gc]at H
             have c114b0:decide ((ak)<(Z.length:Int))=true:=decide_eq_true gc;clear gc;by_cases ge:0<=al
             case neg=>rw[if_neg ge]at H;exact absurd H zd
             rw[if_pos ge]at H
             have c115b0:decide (0<=al)=true:=decide_eq_true ge;clear ge;by_cases gf:al<(ay.length:Int)
             case neg=>rw[if_neg gf]at H;exact absurd H zd
             rw[if_pos gf]at H
             have c116b0:decide (al<(ay.length:Int))=true:=decide_eq_true gf;clear gf;obtain⟨d6,mj,H⟩:=bindO H
             (try dsimp only at H)
             obtain⟨j0,d1⟩: ∃y_:List Int,y_=(Z.set ((ak):Int).toNat (Go.bits .xor .u8 (rd Z (ak)) d6)):=⟨_,rfl⟩
             replace H:(recoupref04_Reduce.l4 k6 O aj (O.length:Int) ay ap d5 (wrap64 (al+1)) am ah j0)=some (r1,r2,r3,r4,r5):=zH d1 H
             have kg:=aK d1;clear d1;have H':=aK H;clear H;have n1:=aa.out;have og:=X.out;have n2:=ab.out;have oh:=Y.out;obtain⟨kx,ky,kz,lr,ls,lt⟩:=cell3 D
             try go_wp2
             replace HO_6:=aK (R_drew HO_6.out);replace HO_14:=aK (R_drew HO_14.out);replace HO_161002:=aK (R_drew HO_161002.out);replace I:=aK (blk_drew I.out);replace J:=aK (blk_drew J.out);replace D:=aK (blk_drew D.out);replace HB:=aK (below_drew1 HB.out);obtain⟨ov,iu,iw⟩:=R_slice HO_161002.out
             (first|subst iw|(injection iw with f1_ f2_ f3_;have f4_:=f1_.symm;have f5_:=f3_.symm;clear f1_ f2_ f3_;subst f4_;subst f5_))
             have i4:0<=((ak):Int):=of_decide_eq_true asE;have i7:(ak)<(Z.length:Int):=of_decide_eq_true asE;obtain⟨im,mz,du⟩:=Kd.at_int (R_reads' HO_161002.out).2.2 (ak) i4 i7
             cases mz
             replace i4:=eq_true i4;replace i7:=eq_true i7;obtain⟨ow,o8,ix⟩:=R_slice HO_14.out
             (first|subst ix|(injection ix with f1_ f2_ f3_;have f4_:=f1_.symm;have f5_:=f3_.symm;clear f1_ f2_ f3_;subst f4_;subst f5_))
             have i5:0<=(al:Int):=of_decide_eq_true asE;have i8:al<(ay.length:Int):=of_decide_eq_true asE;obtain⟨kh,m0,fv⟩:=Kd.at_int (R_reads' HO_14.out).2.2 al i5 i8
             cases m0
             replace i5:=eq_true i5;replace i8:=eq_true i8;refine start_ (n:=19) (S:=fun w'=>w'.cell? ⟨ax,0,none⟩=some (.int .i64 am)/\w'.cell? ⟨ax,1,none⟩=some (.int .i64 ah)/\w'.cell? ⟨ax,2,none⟩=some (.slice (some im) Z.length iu)/\w'.cell? (im.add ((ak)).toNat)=some (.int .u8 (rd Z (ak)))/\w'.cell? (kh.add (al).toNat)=some (.int .u8 (rd ay al))) (ds:= [18]) (.replicate 19 false) zc rfl rfl (z3k D ⟨du,fv⟩) (fun hHeld=>?_);refine with_tabW recoupref04_Reduce.tab32 recoupref04_Reduce.bits32 (fun HT_ HW_=>?_);generalize wr.drew=rq at HO_6 HO_14 HO_161002 I J D HB du fv hHeld⊢;refine pu 0 (some 130) (mB 19 1) HT_ ?_;refine pu 2 (some 132) (mB 19 5) HT_ ?_;refine pu 3 (some 133) (mB 19 13) HT_ ?_;refine pu 6 (some 136) (mB 19 77) HT_ ?_;refine pu 10 (some 140) (mB 19 1101) HT_ ?_;refine pu 11 (some 141) (mB 19 3149) HT_ ?_;refine pu 12 (some 142) (mB 19 7245) HT_ ?_;refine pu 13 (some 143) (mB 19 15437) HT_ ?_;refine tk5 1 (some 131) (mB 19 15439) HT_ HW_ hHeld ?_;refine tk5 4 (some 134) (mB 19 15455) HT_ HW_ hHeld ?_;refine pu 5 (some 135) (mB 19 15487) HT_ ?_;refine pu 7 (some 137) (mB 19 15615) HT_ ?_;refine pu 8 (some 138) (mB 19 15871) HT_ ?_;refine tk5 9 (some 139) (mB 19 16383) HT_ HW_ hHeld ?_;refine tk5 14 (some 144) (mB 19 32767) HT_ HW_ hHeld ?_;refine zoh 15 (some 145) (mB 19 65535) HT_ fun K hK=>?_;refine goes_ Tryd.func78 zc rfl #[.int .u8 d5,.int .u8 (rd ay al)] ze rfl rfl (by(try simp only[List.map_toArray,List.map_cons,List.map_nil]);first|done|rfl|(simp only[List.length_drop,List.length_take];rfl)) ?_;with_reducible refine(recoupref01_Mul.calls k6 d5 (rd ay al) d6 _ mj.out).mono ?_
             rintro e w' ⟨rfl,⟨nd,rfl⟩⟩;refine⟨_,rfl,?_⟩;have i3:0<=((ak):Int):=of_decide_eq_true asE;have i6:((ak):Int)<((Z.length:Int):Int):=of_decide_eq_true asE;obtain⟨ej,o7,iv,iy,ks,o6,ig⟩:=R_form HO_161002.out za
             (first|cases iv|(injection iv with ea_ en_ ec_;(first|subst ea_|(injection ea_ with ea_;subst ea_));subst ec_;clear en_))
             have ox:=aK iy;have j5:=aK ig;clear iy ks ig
             (first|simp only[add_plain]at du|skip)
             obtain⟨nj,nc⟩:=R_celln 0 HO_161002.out ((ak):Int) i3 i6;replace i3:=eq_true i3;replace i6:=eq_true i6;have fz:=R_putn HO_161002.out ((ak):Int) (Go.bits .xor .u8 (rd Z (ak)) d6);rw[<-kg.out]at fz
             have ka:=aK fz;clear fz;refine hK.out _ _ (z3k D ⟨hHeld.2.2.2.1,hHeld.2.2.2.2⟩) (fun hHeld=>?_);clear hK K;refine znm (some 145) ?_;refine pu 16 (some 146) (mB 19 131071) HT_ ?_;refine pu 17 (some 147) (mB 19 262143) HT_ ?_;refine zlh 18 (none) (mB 19 524287) HT_ fun K hK=>?_;refine zsk ?_;refine hK.out _ _ ?_;clear hK K;refine done_ (done_of HT_.out zc) ?_
             try go_wp2
             go_roundg k6
             case measure=>have:=b6.out;have:=a1.out;have:=b2.out;have:=ea.out;have:=en.out;have:=jg.out;omega
             case rel=>exact⟨(ay),(wrap64 (al+1)),(j0),(.slice (some ⟨ej,0,none⟩) Z.length iu),rsE,H',⟨by have:=b6.out;have:=a1.out;have:=b2.out;have:=ea.out;have:=en.out;have:=jg.out;omega⟩,⟨by(with_reducible repeat(first|apply R_alloc|apply R_drewN|apply R_drew));exact R_mono (R_far (p:=⟨ej,((ak):Int).toNat,none⟩) (R_types HO_6.out j5.out zb) (fun _ hk=>hk.2) (.int .u8 (Go.bits .xor .u8 (rd Z (ak)) d6))) (fun _ hk=>trivial)⟩,⟨by(with_reducible repeat(first|apply R_alloc|apply R_drewN|apply R_drew));exact R_mono (R_far (p:=⟨ej,((ak):Int).toNat,none⟩) (R_mono HO_14.out (fun k_ hk=>(⟨hk,fun e_=>hk zi⟩:_/\k_≠ej))) (fun _ hk=>hk.2) (.int .u8 (Go.bits .xor .u8 (rd Z (ak)) d6))) (fun _ hk=>hk.1)⟩,⟨kdA ka.out⟩,⟨by refine bkR ?_;refine blk_far ?_ (by have h_:=R_ne HO_161002.out I.out zb;intro e_;exact h_ zi) _;refine bkR ?_;exact I.out⟩,⟨by refine bkR ?_;refine blk_far ?_ (by have h_:=R_ne HO_161002.out J.out zb;intro e_;exact h_ zi) _;refine bkR ?_;exact J.out⟩,⟨by refine bkR ?_;refine blk_far ?_ (by have h_:=R_ne HO_161002.out D.out zb;intro e_;exact h_ zi) _;refine bkR ?_;exact D.out⟩,⟨hbA HB.out⟩⟩
def recoupref04_Rank.f(k:Nat)(G:Int)(I:Int)(J:List Int):Option (Int×Int):=(recoupref04_Reduce.f k G I J).bind fun D=>(some ((D.2.2.2.1.length:Int),D.2.2.2.2))
theorem recoupref04_Rank.calls(k:Nat)(I:Int)(J:Int)(Y:Option Addr)(Z:Nat)(G:List Int)(r1:Int)(r2:Int)(w:World)(ac:Kd.C (Kd.int .u8) w Y G.length G)(ab:G.length<=Z)(h:recoupref04_Rank.f k I J G=some (r1,r2)):
 Calls Tryd.prog 76 #[.agg #[.int .i64 I,.int .i64 J,.slice Y G.length Z]] w fun e w'=>e= .returned (.tuple #[.int .i64 r1,.int .i64 r2])/\Below w.heap.size w w':=by
 have be:=Tryd.underlying24;have ag:=aK ac;have af:=aK ab;clear ac ab;have HB:=aK (Below.refl w.heap.size w);have H:((recoupref04_Reduce.f k I J G).bind fun aa=>(some ((aa.2.2.2.1.length:Int),aa.2.2.2.2)))=some (r1,r2):=h;clear h;obtain⟨⟨ak,al,am,an,ao⟩,A2,H⟩:=bindO H
 (try dsimp only at H)
 obtain⟨rfl,rfl⟩:=zP2 H
 go_enter Tryd.func76,Tryd.ntmps76
 go_wp2_with (first|((with_reducible refine gD 1 rfl ?_);refine bE 1 #[.int .i64 I,.int .i64 J,.slice Y G.length Z] 24 ?_;intro a8 hg w3 hbox hb;have D:=aK (hbox);have a5:=hbS HB hg;have a3:=hbS HB hg;replace HB:=hbB HB hb;clear hb hbox hg;obtain⟨ap,aq,ar,ax,ay,az⟩:=cell3 D)|((with_reducible refine gC 96 rfl ?_);refine cG (some 9) Tryd.func96 #[.agg #[.int .i64 I,.int .i64 J,.slice Y G.length Z]] ?_;(with_reducible refine(recoupref04_Reduce.calls k I J _ _ G ak al am an ao _ ?side1 ?side2 A2.out).mono ?_);(case side1=>exact kcB ag HB);(case side2=>exact af.out);rintro e w5 ⟨bf,bg,rfl,ai,aj,hb⟩;refine⟨_,rfl,?_⟩;have L:=aK (R_lower ai (below_size (hbA HB.out)));have O:=aK (R_lower aj (below_size (hbA HB.out)));replace D:=bkB D hb;replace HB:=hbB HB hb;(try clear hb);(try clear ai);(try clear aj))|((with_reducible refine gD 4 rfl ?_);refine bE 4 #[.int .i64 0,.int .i64 0,.slice none 0 0] 24 ?_;intro a9 hg w6 hbox hb;replace L:=kdB L hb;replace O:=kdB O hb;have ae:=aK (hbox);have a6:=hbS HB hg;have a4:=hbS HB hg;replace HB:=hbB HB hb;have U:=neL D hg;have X:=neG D hg;replace D:=bkB D hb;clear hb hbox hg;have bc:=X.out;have bd:=U.out;obtain⟨au,av,aw,a0,a1,a2⟩:=cell3 ae;obtain⟨bh,bi,a7⟩:=R_slice L.out;subst a7;obtain⟨ba,bb,ah⟩:=R_slice O.out;subst ah))
 go_ret2
 exact⟨rfE,hbA HB.out⟩
def recoupref07_rank.f(k:Nat)(I:Int)(J:Int)(L:List Int)(a1:Int):Option (Int):=(recoupref06_List.f k a1).bind fun O=>((recoupref03_Pick.f k I J L O).bind fun D=>((recoupref04_Rank.f k D.1 D.2.1 D.2.2.1).bind fun G=>(some G.1)))
def recoupref07_rank.T1:Bool×List (List Nat×List Nat):=(true,[([],[]),([],[]),([1],[1]),([0,2,2],[0,2]),([3],[3]),([4],[4]),([4],[4]),([],[]),([7,5,3,0,1,2,3,4,5,7],[5,7]),([6,8,0,1,2,3,4,5,6,7,8],[6])])
def recoupref07_rank.B1:List Nat:= [0,0,2,7,15,31,31,0,191,511]
theorem recoupref07_rank.tab1:rtab .any (opsOf Tryd.f47 1)=recoupref07_rank.T1:=by kernel_rfl
theorem recoupref07_rank.bits1:waitsOk recoupref07_rank.T1.2 recoupref07_rank.B1=true:=by kernel_rfl
theorem recoupref07_rank.calls(k:Nat)(Z:Int)(aa:Int)(af:Option Addr)(ag:Nat)(X:List Int)(a1:Int)(r:Int)(w:World)(az:Kd.C (Kd.int .u8) w af X.length X)(ay:X.length<=ag)(h:recoupref07_rank.f k Z aa X a1=some r):
 Calls Tryd.prog 47 #[.agg #[.int .i64 Z,.int .i64 aa,.slice af X.length ag],.int .u64 a1] w fun e w'=>e= .returned (.int .i64 r)/\Below w.heap.size w w':=by
 have bx:=Tryd.underlying24;have aw:=aK az;have av:=aK ay;clear az ay;have HB:=aK (Below.refl w.heap.size w);have H:((recoupref06_List.f k a1).bind fun ab=>((recoupref03_Pick.f k Z aa X ab).bind fun ax=>((recoupref04_Rank.f k ax.1 ax.2.1 ax.2.2.1).bind fun a4=>(some a4.1))))=some r:=h;clear h;obtain⟨ab,A3,H⟩:=bindO H
 (try dsimp only at H)
 obtain⟨⟨ac,ae,ah,ao⟩,A4,H⟩:=bindO H
 (try dsimp only at H)
 obtain⟨⟨bk,bl⟩,A5,H⟩:=bindO H
 (try dsimp only at H)
 obtain rfl:=Option.some.inj H
 go_enter Tryd.func47,Tryd.ntmps47
 try go_wp2_with (first|((with_reducible refine gD 2 rfl ?_);refine bE 2 #[.int .i64 Z,.int .i64 aa,.slice af X.length ag] 24 ?_;intro U hg w6 hbox hb;have D:=aK (hbox);have bo:=hbS HB hg;have bn:=hbS HB hg;replace HB:=hbB HB hb;clear hb hbox hg))
 replace D:=aK (blk_drew D.out);replace HB:=aK (below_drew1 HB.out);refine start_ (n:=10) (S:=fun w'=>w'.cell? ⟨U,0,none⟩=some (.int .i64 Z)/\w'.cell? ⟨U,1,none⟩=some (.int .i64 aa)/\w'.cell? ⟨U,2,none⟩=some (.slice af X.length ag)) (ds:= []) (.replicate 10 false) zc rfl rfl (z3c D) (fun hHeld=>?_);refine with_tabW recoupref07_rank.tab1 recoupref07_rank.bits1 (fun HT_ HW_=>?_);generalize w6.drew=w7 at D HB hHeld⊢;refine pu 1 (some 11) (mB 10 2) HT_ ?_;refine tk3 0 (some 10) (mB 10 3) HT_ HW_ hHeld ?_;refine join_ (σ:=Value×Value×Nat) 2 (mB 10 255) (fun s_=> [(12,s_.1),(13,.tuple #[.agg #[.int .i64 ac,.int .i64 ae,s_.2.1],.int .i64 ao]),(5,.pointer (some ⟨s_.2.2,0,none⟩)),(9,.tuple #[.agg #[.int .i64 ac,.int .i64 ae,s_.2.1],.int .i64 ao]),(14,.agg #[.int .i64 ac,.int .i64 ae,s_.2.1]),(15,.int .i64 ao)]) (fun s_ w'=>(w'.cell? ⟨U,0,none⟩=some (.int .i64 Z)/\w'.cell? ⟨U,1,none⟩=some (.int .i64 aa)/\w'.cell? ⟨U,2,none⟩=some (.slice af X.length ag))/\(Kd.R (Kd.int .i64) 3 w' w.heap.size (fun _=>True) s_.1 ab)/\(Kd.R (Kd.int .u8) 5 w' w.heap.size (fun _=>True) s_.2.1 ah)/\(w'.heap[U]? =some (.cells #[.int .i64 Z,.int .i64 aa,.slice af X.length ag] 24 (0,0)))/\(w'.heap[s_.2.2]? =some (.cells #[.int .i64 0,.int .i64 0,.slice none 0 0] 24 (0,0)))/\(w.heap.size<=s_.2.2)/\(w.heap.size<=s_.2.2)/\(U≠s_.2.2)/\(s_.2.2≠U)/\(Below w.heap.size w w')) ?_ ?_;rotate_left
 ·intro hCont;refine two_ (i:=2) (j:=7) (Ni:=some 12) (Nj:=some 5) (mB 10 7) (mB 10 131) rfl rfl rfl rfl (two_of HT_.out zc) zb zb (fun K hK=>?_) (fun K hK=>?_)
  ·skip
   refine goes_ Tryd.func23 zc rfl #[.int .u64 a1] ze rfl rfl (by(try simp only[List.map_toArray,List.map_cons,List.map_nil]);first|done|rfl|(simp only[List.length_drop,List.length_take];rfl)) ?_;with_reducible refine(recoupref06_List.calls k a1 ab _ A3.out).mono ?_
   rintro e w8 ⟨a0,rfl,ai,hb⟩;refine⟨_,rfl,?_⟩;have I:=aK (R_lower ai (below_size (hbA HB.out)));replace D:=bkB D hb;replace HB:=hbB HB hb
   (try clear hb)
   (try clear a2)
   (try clear hk)
   (try clear hi)
   (try clear ai)
   obtain⟨a5,a6,a7⟩:=R_slice I.out
   (first|subst a7|(injection a7 with f1_ f2_ f3_;have f4_:=f1_.symm;have f5_:=f3_.symm;clear f1_ f2_ f3_;subst f4_;subst f5_))
   refine hK.out _ _ (z3c D) (fun hHeld=>?_);clear hK K;refine znm (some 12) ?_;refine two_ (i:=3) (j:=7) (Ni:=some 13) (Nj:=some 5) (mB 10 15) (mB 10 135) rfl rfl rfl rfl (two_of HT_.out zc) zb zb (fun K hK=>?_) (fun K hK=>?_)
   ·skip
    refine goes_ Tryd.func43 zc rfl #[.agg #[.int .i64 Z,.int .i64 aa,.slice af X.length ag],.slice a5 ab.length a6] ze rfl rfl (by(try simp only[List.map_toArray,List.map_cons,List.map_nil]);first|done|rfl|(simp only[List.length_drop,List.length_take];rfl)) ?_;with_reducible refine(recoupref03_Pick.calls k Z aa _ _ X _ _ ab ac ae ah ao _ ?side1 ?side2 ?side3 ?side4 A4.out).mono ?_
    (case side1=>exact kcB aw HB)
    (case side2=>exact av.out)
    (case side3=>exact kcA (R_reads' I.out).2.2)
    (case side4=>exact(R_reads' I.out).2.1)
    rintro e bz ⟨al,rfl,ai,hb⟩;refine⟨_,rfl,?_⟩;replace I:=kdB I hb;have Y:=aK (R_lower ai (below_size (hbA HB.out)));replace D:=bkB D hb;replace HB:=hbB HB hb
    (try clear hb)
    (try clear a2)
    (try clear hk)
    (try clear hi)
    (try clear ai)
    refine hK.out _ _ (z3c D) (fun hHeld=>?_);clear hK K;refine znm (some 13) ?_;refine pu 4 (some 9) (mB 10 31) HT_ ?_;refine pu 5 (some 14) (mB 10 63) HT_ ?_;refine pu 6 (some 15) (mB 10 127) HT_ ?_;refine zoh 7 (some 5) (mB 10 255) HT_ fun K hK=>?_;refine box_step ?hg (N:=5) ?hd (cs:= #[.int .i64 0,.int .i64 0,.slice none 0 0]) (t:=24) ?hr ?_;(case hd=>rfl);(case hg=>rfl);(case hr=>first|(go_simp;done)|(go_simp;rfl))
    intro L hg bm hbox hb;replace I:=kdB I hb;replace Y:=kdB Y hb;have J:=aK (hbox);have ak:=hbS HB hg;have aj:=hbS HB hg;replace HB:=hbB HB hb;have G:=neL D hg;have O:=neG D hg;replace D:=bkB D hb;clear hb hbox hg;refine hK.out _ _ (z3c D) (fun hHeld=>?_);clear hK K;refine znm (some 5) ?_;exact norm_ zm (hCont (.slice a5 ab.length a6,al,L) _ ⟨hHeld,(kdA I.out),(kdA Y.out),(bkA D.out),(bkA J.out),ak.out,aj.out,G.out,O.out,(hbA HB.out)⟩)
   ·skip
    refine box_step ?hg (N:=5) ?hd (cs:= #[.int .i64 0,.int .i64 0,.slice none 0 0]) (t:=24) ?hr ?_;(case hd=>rfl);(case hg=>rfl);(case hr=>first|(go_simp;done)|(go_simp;rfl))
    intro L hg w9 hbox hb;replace I:=kdB I hb;have J:=aK (hbox);have ak:=hbS HB hg;have aj:=hbS HB hg;replace HB:=hbB HB hb;have G:=neL D hg;have O:=neG D hg;replace D:=bkB D hb;clear hb hbox hg;obtain⟨ap,ar,au⟩:=R_slice I.out
    (first|subst au|(injection au with f1_ f2_ f3_;have f4_:=f1_.symm;have f5_:=f3_.symm;clear f1_ f2_ f3_;subst f4_;subst f5_))
    refine hK.out _ _ (z3c D) (fun hHeld=>?_);clear hK K;refine znm (some 5) ?_;refine zoh 3 (some 13) (mB 10 143) HT_ fun K hK=>?_;refine goes_ Tryd.func43 zc rfl #[.agg #[.int .i64 Z,.int .i64 aa,.slice af X.length ag],.slice ap ab.length ar] ze rfl rfl (by(try simp only[List.map_toArray,List.map_cons,List.map_nil]);first|done|rfl|(simp only[List.length_drop,List.length_take];rfl)) ?_;with_reducible refine(recoupref03_Pick.calls k Z aa _ _ X _ _ ab ac ae ah ao _ ?side1 ?side2 ?side3 ?side4 A4.out).mono ?_
    (case side1=>exact kcB aw HB)
    (case side2=>exact av.out)
    (case side3=>exact kcA (R_reads' I.out).2.2)
    (case side4=>exact(R_reads' I.out).2.1)
    rintro e bm ⟨al,rfl,ai,hb⟩;refine⟨_,rfl,?_⟩;replace I:=kdB I hb;have Y:=aK (R_lower ai (below_size (hbA HB.out)));replace D:=bkB D hb;replace J:=bkB J hb;replace HB:=hbB HB hb
    (try clear hb)
    (try clear a2)
    (try clear hk)
    (try clear hi)
    (try clear ai)
    refine hK.out _ _ (z3c D) (fun hHeld=>?_);clear hK K;refine znm (some 13) ?_;refine pu 4 (some 9) (mB 10 159) HT_ ?_;refine pu 5 (some 14) (mB 10 191) HT_ ?_;refine pu 6 (some 15) (mB 10 255) HT_ ?_;exact norm_ zm (hCont (.slice ap ab.length ar,al,L) _ ⟨hHeld,(kdA I.out),(kdA Y.out),(bkA D.out),(bkA J.out),ak.out,aj.out,G.out,O.out,(hbA HB.out)⟩)
  ·skip
   refine box_step ?hg (N:=5) ?hd (cs:= #[.int .i64 0,.int .i64 0,.slice none 0 0]) (t:=24) ?hr ?_;(case hd=>rfl);(case hg=>rfl);(case hr=>first|(go_simp;done)|(go_simp;rfl))
   intro L hg w8 hbox hb;have J:=aK (hbox);have ak:=hbS HB hg;have aj:=hbS HB hg;replace HB:=hbB HB hb;have G:=neL D hg;have O:=neG D hg;replace D:=bkB D hb;clear hb hbox hg;refine hK.out _ _ (z3c D) (fun hHeld=>?_);clear hK K;refine znm (some 5) ?_;refine zoh 2 (some 12) (mB 10 135) HT_ fun K hK=>?_;refine goes_ Tryd.func23 zc rfl #[.int .u64 a1] ze rfl rfl (by(try simp only[List.map_toArray,List.map_cons,List.map_nil]);first|done|rfl|(simp only[List.length_drop,List.length_take];rfl)) ?_;with_reducible refine(recoupref06_List.calls k a1 ab _ A3.out).mono ?_
   rintro e w9 ⟨a0,rfl,ai,hb⟩;refine⟨_,rfl,?_⟩;have I:=aK (R_lower ai (below_size (hbA HB.out)));replace D:=bkB D hb;replace J:=bkB J hb;replace HB:=hbB HB hb
   (try clear hb)
   (try clear a2)
   (try clear hk)
   (try clear hi)
   (try clear ai)
   obtain⟨ap,ar,au⟩:=R_slice I.out
   (first|subst au|(injection au with f1_ f2_ f3_;have f4_:=f1_.symm;have f5_:=f3_.symm;clear f1_ f2_ f3_;subst f4_;subst f5_))
   refine hK.out _ _ (z3c D) (fun hHeld=>?_);clear hK K;refine znm (some 12) ?_;refine zoh 3 (some 13) (mB 10 143) HT_ fun K hK=>?_;refine goes_ Tryd.func43 zc rfl #[.agg #[.int .i64 Z,.int .i64 aa,.slice af X.length ag],.slice ap ab.length ar] ze rfl rfl (by(try simp only[List.map_toArray,List.map_cons,List.map_nil]);first|done|rfl|(simp only[List.length_drop,List.length_take];rfl)) ?_;with_reducible refine(recoupref03_Pick.calls k Z aa _ _ X _ _ ab ac ae ah ao _ ?side1 ?side2 ?side3 ?side4 A4.out).mono ?_
   (case side1=>exact kcB aw HB)
   (case side2=>exact av.out)
   (case side3=>exact kcA (R_reads' I.out).2.2)
   (case side4=>exact(R_reads' I.out).2.1)
   rintro e bm ⟨al,rfl,ai,hb⟩;refine⟨_,rfl,?_⟩;replace I:=kdB I hb;have Y:=aK (R_lower ai (below_size (hbA HB.out)));replace D:=bkB D hb;replace J:=bkB J hb;replace HB:=hbB HB hb
   (try clear hb)
   (try clear a2)
   (try clear hk)
   (try clear hi)
   (try clear ai)
   refine hK.out _ _ (z3c D) (fun hHeld=>?_);clear hK K;refine znm (some 13) ?_;refine pu 4 (some 9) (mB 10 159) HT_ ?_;refine pu 5 (some 14) (mB 10 191) HT_ ?_;refine pu 6 (some 15) (mB 10 255) HT_ ?_;exact norm_ zm (hCont (.slice ap ab.length ar,al,L) _ ⟨hHeld,(kdA I.out),(kdA Y.out),(bkA D.out),(bkA J.out),ak.out,aj.out,G.out,O.out,(hbA HB.out)⟩)
 rintro⟨a0,al,L⟩ am ⟨hS_,h0_,h1_,h2_,h3_,h4_,h5_,h6_,h7_,h8_⟩;have n0_:Aside0 (Kd.R (Kd.int .i64) 3 am w.heap.size (fun _=>True) a0 ab):=⟨h0_⟩
 have n1_:Aside0 (Kd.R (Kd.int .u8) 5 am w.heap.size (fun _=>True) al ah):=⟨h1_⟩
 have n2_:Aside0 (am.heap[U]? =some (.cells #[.int .i64 Z,.int .i64 aa,.slice af X.length ag] 24 (0,0))):=⟨h2_⟩
 have n3_:Aside0 (am.heap[L]? =some (.cells #[.int .i64 0,.int .i64 0,.slice none 0 0] 24 (0,0))):=⟨h3_⟩
 have n4_:Aside0 (w.heap.size<=L):=⟨h4_⟩
 have n5_:Aside0 (w.heap.size<=L):=⟨h5_⟩
 have n6_:Aside0 (U≠L):=⟨h6_⟩
 have n7_:Aside0 (L≠U):=⟨h7_⟩
 have n8_:Aside0 (Below w.heap.size w am):=⟨h8_⟩
 clear D;clear HB;clear h0_ h1_ h2_ h3_ h4_ h5_ h6_ h7_ h8_;have I:=n0_;have Y:=n1_;have D:=n2_;have J:=n3_;have ak:=n4_;have aj:=n5_;have G:=n6_;have O:=n7_;have HB:=n8_;clear n0_ n1_ n2_ n3_ n4_ n5_ n6_ n7_ n8_;have hHeld:am.cell? ⟨U,0,none⟩=some (.int .i64 Z)/\am.cell? ⟨U,1,none⟩=some (.int .i64 aa)/\am.cell? ⟨U,2,none⟩=some (.slice af X.length ag):=hS_;obtain⟨aq,an,a3⟩:=R_slice Y.out
 (first|subst a3|(injection a3 with f1_ f2_ f3_;have f4_:=f1_.symm;have f5_:=f3_.symm;clear f1_ f2_ f3_;subst f4_;subst f5_))
 refine znq ?_;refine zoh 8 (none) (mB 10 511) HT_ fun K hK=>?_;have bu:am.cell? ⟨L,0,none⟩=some (.int .i64 0):=(blk_cell J.out 0).trans rfl;have bp:=blk_frozen J.out 0;have bh:=G.out;have be:=O.out;have bv:am.cell? ⟨L,1,none⟩=some (.int .i64 0):=(blk_cell J.out 1).trans rfl;have bq:=blk_frozen J.out 1;have bi:=G.out;have bf:=O.out;have bw:am.cell? ⟨L,2,none⟩=some (.slice none 0 0):=(blk_cell J.out 2).trans rfl;have br:=blk_frozen J.out 2;have bj:=G.out;have bg:=O.out;refine zsk ?_;refine hK.out _ _ ⟨((cell_far (p:=⟨L,_,none⟩) G.out _).trans (((cell_far (p:=⟨L,_,none⟩) G.out _).trans (((cell_far (p:=⟨L,_,none⟩) G.out _).trans (hHeld.1)))))),((cell_far (p:=⟨L,_,none⟩) G.out _).trans (((cell_far (p:=⟨L,_,none⟩) G.out _).trans (((cell_far (p:=⟨L,_,none⟩) G.out _).trans (hHeld.2.1)))))),((cell_far (p:=⟨L,_,none⟩) G.out _).trans (((cell_far (p:=⟨L,_,none⟩) G.out _).trans (((cell_far (p:=⟨L,_,none⟩) G.out _).trans (hHeld.2.2))))))⟩ (fun hHeld=>?_);clear hK K;refine pu 9 (some 6) (mB 10 1023) HT_ ?_;refine done_ (done_of HT_.out zc) ?_;have bs:=O.out;have bt:=G.out;obtain⟨a8,a9,ba,bb,bc,bd⟩:=cell3 J
 try go_wp2_with (first|((with_reducible refine gC 76 rfl ?_);refine cG (some 18) Tryd.func76 #[.agg #[.int .i64 ac,.int .i64 ae,.slice aq ah.length an]] ?_;(with_reducible refine(recoupref04_Rank.calls k ac ae _ _ ah bk bl _ ?side1 ?side2 A5.out).mono ?_);(case side1=>refine(R_reads' (e:=5) (base:=w.heap.size) (ok:=fun k_=>True) (n:=ah.length) (c:=an) ?_).2.2;exact(by(with_reducible repeat(first|apply R_alloc|apply R_drewN|apply R_drew));exact(zF Y.out J.out  (.int .i64 ac)  (.int .i64 ae)  (.slice aq ah.length an))));(case side2=>exact(R_reads' Y.out).2.1);rintro e b0 ⟨rfl,hb⟩;refine⟨_,rfl,?_⟩;replace I:=aK (R_below (by(with_reducible repeat(first|apply R_alloc|apply R_drewN|apply R_drew));exact(zF I.out J.out  (.int .i64 ac)  (.int .i64 ae)  (.slice aq ah.length an))) hb);replace Y:=aK (R_below (by(with_reducible repeat(first|apply R_alloc|apply R_drewN|apply R_drew));exact(zF Y.out J.out  (.int .i64 ac)  (.int .i64 ae)  (.slice aq ah.length an))) hb);replace D:=aK (blk_below (g:=U) (o:= .cells #[.int .i64 Z,.int .i64 aa,.slice af X.length ag] 24 (0,0)) zz hb);replace J:=aK (blk_below (g:=L) (o:= .cells #[.int .i64 ac,.int .i64 ae,.slice aq ah.length an] 24 (0,0)) (by refine bkR ?_;refine blk_put (cs:= #[.int .i64 ac,.int .i64 ae,.slice none 0 0]) ?_ 2 _ rfl;refine bkR ?_;refine blk_put (cs:= #[.int .i64 ac,.int .i64 0,.slice none 0 0]) ?_ 1 _ rfl;refine bkR ?_;refine blk_put (cs:= #[.int .i64 0,.int .i64 0,.slice none 0 0]) ?_ 0 _ rfl;refine bkR ?_;exact J.out) hb);replace HB:=hbB HB hb;(try clear hb)))
 go_ret
 exact⟨rfE,hbA HB.out⟩
mutual
def recoupref06_Full.j0:Nat->Int->Bool->Option (Int×Int)
 |0,_,_=>none
 |k+1,x0,D=>if D=true then(some (0,2))else(recoupref06_Full.l0 k x0 0 0)
def recoupref06_Full.l0:Nat->Int->Int->Int->Option (Int×Int)
 |0,_,_,_=>none
 |k+1,x0,x4,x5=>if x5<x0 then(if 0<=(IntKind.u64.wrap (x5))then(recoupref06_Full.l0 k x0 (Go.bits .or .u64 x4 (shl .u64 1 (IntKind.u64.wrap (x5)))) (wrap64 (x5+1)))else(none))else(some (x4,0))
end
def recoupref06_Full.f(k:Nat)(a0:Int):Option (Int×Int):=if a0<0 then(recoupref06_Full.j0 k a0 true)else(recoupref06_Full.j0 k a0 (decide (a0>64)))
theorem recoupref06_Full.calls(k:Nat)(a0:Int)(r1:Int)(r2:Int)(w:World)(h:recoupref06_Full.f k a0=some (r1,r2)):
 Calls Tryd.prog 17 #[.int .i64 a0] w fun e w'=>e= .returned (.tuple #[.int .u64 r1,.int .i64 r2])/\Drawn0 w w':=by
 have H:(if a0<0 then(recoupref06_Full.j0 k a0 true)else(recoupref06_Full.j0 k a0 (decide (a0>64))))=some (r1,r2):=h;clear h;have X:=aK H;clear H
 go_enter Tryd.func17,Tryd.ntmps17
 go_upto_region 1 with(fail)
 go_cut [11] (fun ab wc=> ∃(kq:Nat) (J:Bool),ab= .bool J/\Aside0 (recoupref06_Full.j0 kq a0 J=some (r1,r2))/\Aside0 (kq<=k)/\Drawn0 w wc)
 case first=>
  have H:=X.out;clear X;by_cases c3:a0<0
  case neg=>
   rw[if_neg c3]at H
   have c3b0:decide (a0<0)=false:=decide_eq_false c3;clear c3
   (first|rw[c3b0] |(simp only[i64_w,i32_w];rw[c3b0])|skip)
   have H':=aK H;clear H;go_wp2
   go_meet
   case rel=>exact⟨_,(decide (a0>64)),rsE,H',⟨leE⟩,by repeat(first|exact Drawn0.refl _|apply Drawn0.step)⟩
  rw[if_pos c3]at H
  have c3b0:decide (a0<0)=true:=decide_eq_true c3;clear c3
  (first|rw[c3b0] |(simp only[i64_w,i32_w];rw[c3b0])|skip)
  have H':=aK H;clear H;go_wp2
  go_meet
  case rel=>exact⟨_,(true),rsE,H',⟨leE⟩,by repeat(first|exact Drawn0.refl _|apply Drawn0.step)⟩
 case rest=>
  clear X
  (try clear c1);(try clear p2);(try clear c3);(try clear c3b0)
  obtain⟨kq,J,rfl,HA,Y,⟨ac,rfl⟩⟩:=hcut
  cases kq with
  |zero=>exact absurd HA.out (by simp[recoupref06_Full.j0])
  |succ aa=>
   have H:=HA.out;clear HA;simp only[recoupref06_Full.j0]at H;by_cases c4:J=true
   ·subst c4;rw[if_pos rfl]at H
    obtain⟨rfl,rfl⟩:=zP2 H;go_wp2
    go_ret2
    exact zD
   replace c4:=Bool.eq_false_iff.mpr c4;subst c4;rw[if_neg nofT]at H
   have H':=aK H;clear H;go_wp2
   go_loopg [4,5] aa (fun kq v4 v5 w'=> ∃(I:Int) (D:Int),v4= .int .u64 I/\v5= .int .i64 D/\Aside0 (recoupref06_Full.l0 kq a0 I D=some (r1,r2))/\Aside0 (kq<=aa)/\Drawn0 w w')
   case atStart=>exact⟨(0),(0),rsE,rsE,H',⟨Nat.le_refl _⟩,by repeat(first|exact Drawn0.refl _|apply Drawn0.step)⟩
   case round=>
    clear H'
    (try clear c1);(try clear p2 p2);(try clear c3);(try clear c3b0);(try clear c4)
    obtain⟨I,D,rfl,rfl,HA,Z,⟨m2,rfl⟩⟩:=hrel
    cases gk with
    |zero=>exact absurd HA.out (by simp[recoupref06_Full.l0])
    |succ k2=>
     have H:=HA.out;clear HA;simp only[recoupref06_Full.l0]at H;by_cases c5:D<a0
     case neg=>
      rw[if_neg c5]at H
      have c5b0:decide (D<a0)=false:=decide_eq_false c5;clear c5;obtain⟨rfl,rfl⟩:=zP2 H;go_wp2
      go_ret2
      exact zD
     rw[if_pos c5]at H
     have c5b0:decide (D<a0)=true:=decide_eq_true c5;clear c5;obtain⟨G,U⟩: ∃j_:Int,(IntKind.u64.wrap (D))=j_:=⟨_,rfl⟩
     replace H:(if 0<=(G)then(recoupref06_Full.l0 k2 a0 (Go.bits .or .u64 I (shl .u64 1 (G))) (wrap64 (D+1)))else(none))=some (r1,r2):=by first|(rw[U]at H;exact H)|(simp only[U]at H⊢;exact H)
     by_cases c7:0<=(G)
     case neg=>rw[if_neg c7]at H;exact absurd H zd
     rw[if_pos c7]at H
     have c7b0:=eq_true c7;have c7b1:decide (0<=(G))=true:=decide_eq_true c7;clear c7;obtain⟨O,L⟩: ∃j_:Int,(shl .u64 1 (G))=j_:=⟨_,rfl⟩
     replace H:(recoupref06_Full.l0 k2 a0 (Go.bits .or .u64 I (O)) (wrap64 (D+1)))=some (r1,r2):=by first|(rw[L]at H;exact H)|(simp only[L]at H⊢;exact H)
     have hji8_:(IntKind.u64.wrap (1*2^min (G).toNat 64))=O:=L;have hji8z:(G)<=64->(IntKind.u64.wrap (1*2^(G).toNat))=O:=shl_small L;have hji8u:(IntKind.u64.wrap (2^min (G).toNat 64))=O:=by have h_:=hji8_;rw[Int.one_mul]at h_;exact h_
     have hji8v:(G)<=64->(IntKind.u64.wrap (2^(G).toNat))=O:=fun hle_=>by have h_:=hji8z hle_;rw[Int.one_mul]at h_;exact h_
     have H':=aK H;clear H;go_wp2
     go_roundg k2
     case measure=>have:=Y.out;have:=Z.out;omega
     case rel=>exact⟨(Go.bits .or .u64 I (O)),(wrap64 (D+1)),(by first|rfl|(simp;done)|(simp only[<-L]<;>(first|rfl|simp))|(simp[*];done)),rsE,H',⟨by have:=Y.out;have:=Z.out;omega⟩,by repeat(first|exact Drawn0.refl _|apply Drawn0.step)⟩
def recoupref07_bad.f(k:Nat)(D:Int)(I:Int)(J:List Int)(a1:Int):Option (Int):=(recoupref03_Right.f D I J).bind fun L=>(if L=true then((recoupref06_Full.f k D).bind fun G=>(if(Go.bits .andNot .u64 a1 G.1)=0 then(some 0)else(some 2)))else(some 3))
theorem recoupref07_bad.calls(k:Nat)(G:Int)(J:Int)(L:Option Addr)(O:Nat)(I:List Int)(a1:Int)(r:Int)(w:World)(ae:Kd.C (Kd.int .u8) w L I.length I)(ac:I.length<=O)(h:recoupref07_bad.f k G J I a1=some r):
 Calls Tryd.prog 75 #[.agg #[.int .i64 G,.int .i64 J,.slice L I.length O],.int .u64 a1] w fun e w'=>e= .returned (.int .i64 r)/\Below w.heap.size w w':=by
 have bf:=Tryd.underlying24;have Y:=aK ae;have X:=aK ac;clear ae ac;have HB:=aK (Below.refl w.heap.size w);have H:((recoupref03_Right.f G J I).bind fun af=>(if af=true then((recoupref06_Full.f k G).bind fun ah=>(if(Go.bits .andNot .u64 a1 ah.1)=0 then(some 0)else(some 2)))else(some 3)))=some r:=h;clear h;obtain⟨af,A3,H⟩:=bindO H
 (try dsimp only at H)
 by_cases c4:af=true
 ·subst c4;rw[if_pos rfl]at H
  obtain⟨⟨U,ag⟩,A5,H⟩:=bindO H
  (try dsimp only at H)
  by_cases c6:(Go.bits .andNot .u64 a1 U)=0
  ·rw[if_pos c6]at H
   have c6b0:((Go.bits .andNot .u64 a1 U)==0)=true:=beq_iff_eq.mpr c6;have c6b1:((Go.bits .andNot .u64 a1 U)!=0)=false:=bne_eq_false_iff_eq.mpr c6;clear c6;obtain rfl:=Option.some.inj H
   go_enter Tryd.func75,Tryd.ntmps75
   go_wp2_with (first|((with_reducible refine gD 2 rfl ?_);refine bE 2 #[.int .i64 G,.int .i64 J,.slice L I.length O] 24 ?_;intro ab hg w7 hbox hb;have D:=aK (hbox);have aa:=hbS HB hg;have Z:=hbS HB hg;replace HB:=hbB HB hb;clear hb hbox hg;obtain⟨a9,ba,bb,bc,bd,be⟩:=cell3 D)|((with_reducible refine gC 45 rfl ?_);refine cG (some 8) Tryd.func45 #[.agg #[.int .i64 G,.int .i64 J,.slice L I.length O]] ?_;(with_reducible refine(recoupref03_Right.calls G J _ _ I true _ ?side1 ?side2 A3.out).mono ?_);(case side1=>exact kcB Y HB);(case side2=>exact X.out);rintro e w9 ⟨rfl,hb⟩;refine⟨_,rfl,?_⟩;replace D:=bkB D hb;replace HB:=hbB HB hb;(try clear hb);obtain⟨ai,aj,ak,aw,ax,ay⟩:=cell3 D)|((with_reducible refine gC 17 rfl ?_);refine cG (some 13) Tryd.func17 #[.int .i64 G] ?_;(with_reducible refine(recoupref06_Full.calls k G U ag _ A5.out).mono ?_);rintro e w' ⟨rfl,⟨nd,rfl⟩⟩;refine⟨_,rfl,?_⟩))
   go_ret
   exact⟨rfE,hbA HB.out⟩
  ·rw[if_neg c6]at H
   have c6b0:((Go.bits .andNot .u64 a1 U)==0)=false:=beq_eq_false_iff_ne.mpr c6;have c6b1:((Go.bits .andNot .u64 a1 U)!=0)=true:=bne_iff_ne.mpr c6;obtain rfl:=Option.some.inj H
   go_enter Tryd.func75,Tryd.ntmps75
   go_wp2_with (first|((with_reducible refine gD 2 rfl ?_);refine bE 2 #[.int .i64 G,.int .i64 J,.slice L I.length O] 24 ?_;intro ab hg bg hbox hb;have D:=aK (hbox);have aa:=hbS HB hg;have Z:=hbS HB hg;replace HB:=hbB HB hb;clear hb hbox hg;obtain⟨al,am,an,az,a0,a2⟩:=cell3 D)|((with_reducible refine gC 45 rfl ?_);refine cG (some 8) Tryd.func45 #[.agg #[.int .i64 G,.int .i64 J,.slice L I.length O]] ?_;(with_reducible refine(recoupref03_Right.calls G J _ _ I true _ ?side1 ?side2 A3.out).mono ?_);(case side1=>exact kcB Y HB);(case side2=>exact X.out);rintro e bh ⟨rfl,hb⟩;refine⟨_,rfl,?_⟩;replace D:=bkB D hb;replace HB:=hbB HB hb;(try clear hb);obtain⟨ao,ap,aq,a3,a4,a5⟩:=cell3 D)|((with_reducible refine gC 17 rfl ?_);refine cG (some 13) Tryd.func17 #[.int .i64 G] ?_;(with_reducible refine(recoupref06_Full.calls k G U ag _ A5.out).mono ?_);rintro e w' ⟨rfl,⟨nd,rfl⟩⟩;refine⟨_,rfl,?_⟩))
   go_ret
   exact⟨rfE,hbA HB.out⟩
 ·replace c4:=Bool.eq_false_iff.mpr c4;subst c4;rw[if_neg nofT]at H
  obtain rfl:=Option.some.inj H
  go_enter Tryd.func75,Tryd.ntmps75
  go_wp2_with (first|((with_reducible refine gD 2 rfl ?_);refine bE 2 #[.int .i64 G,.int .i64 J,.slice L I.length O] 24 ?_;intro ab hg bi hbox hb;have D:=aK (hbox);have aa:=hbS HB hg;have Z:=hbS HB hg;replace HB:=hbB HB hb;clear hb hbox hg;obtain⟨ar,au,av,a6,a7,a8⟩:=cell3 D)|((with_reducible refine gC 45 rfl ?_);refine cG (some 8) Tryd.func45 #[.agg #[.int .i64 G,.int .i64 J,.slice L I.length O]] ?_;(with_reducible refine(recoupref03_Right.calls G J _ _ I false _ ?side1 ?side2 A3.out).mono ?_);(case side1=>exact kcB Y HB);(case side2=>exact X.out);rintro e bj ⟨rfl,hb⟩;refine⟨_,rfl,?_⟩;replace D:=bkB D hb;replace HB:=hbB HB hb;(try clear hb)))
  go_ret
  exact⟨rfE,hbA HB.out⟩
def recoupref07_Rank.f(k:Nat)(D:Int)(G:Int)(I:List Int)(a1:Int):Option (Int×Int):=(recoupref07_bad.f k D G I a1).bind fun J=>(if J=0 then((recoupref07_rank.f k D G I a1).bind fun L=>(some (L,0)))else(some (0,J)))
theorem recoupref07_Rank.calls(k:Nat)(I:Int)(J:Int)(O:Option Addr)(U:Nat)(D:List Int)(a1:Int)(r1:Int)(r2:Int)(w:World)(aa:Kd.C (Kd.int .u8) w O D.length D)(Z:D.length<=U)(h:recoupref07_Rank.f k I J D a1=some (r1,r2)):
 Calls Tryd.prog 46 #[.agg #[.int .i64 I,.int .i64 J,.slice O D.length U],.int .u64 a1] w fun e w'=>e= .returned (.tuple #[.int .i64 r1,.int .i64 r2])/\Below w.heap.size w w':=by
 have a0:=Tryd.underlying24;have Y:=aK aa;have X:=aK Z;clear aa Z;have HB:=aK (Below.refl w.heap.size w);have H:((recoupref07_bad.f k I J D a1).bind fun L=>(if L=0 then((recoupref07_rank.f k I J D a1).bind fun ab=>(some (ab,0)))else(some (0,L))))=some (r1,r2):=h;clear h;obtain⟨L,A3,H⟩:=bindO H
 (try dsimp only at H)
 by_cases c4:L=0
 ·rw[if_pos c4]at H
  have c4b0:(L==0)=true:=beq_iff_eq.mpr c4;have c4b1:(L !=0)=false:=bne_eq_false_iff_eq.mpr c4;clear c4;obtain⟨ab,A5,H⟩:=bindO H
  (try dsimp only at H)
  obtain⟨rfl,rfl⟩:=zP2 H
  go_enter Tryd.func46,Tryd.ntmps46
  go_wp2_with (first|((with_reducible refine gD 2 rfl ?_);refine bE 2 #[.int .i64 I,.int .i64 J,.slice O D.length U] 24 ?_;intro af hg w6 hbox hb;have G:=aK (hbox);have ae:=hbS HB hg;have ac:=hbS HB hg;replace HB:=hbB HB hb;clear hb hbox hg;obtain⟨am,an,ao,au,av,aw⟩:=cell3 G)|((with_reducible refine gC 75 rfl ?_);refine cG (some 9) Tryd.func75 #[.agg #[.int .i64 I,.int .i64 J,.slice O D.length U],.int .u64 a1] ?_;(with_reducible refine(recoupref07_bad.calls k I J _ _ D a1 L _ ?side1 ?side2 A3.out).mono ?_);(case side1=>exact kcB Y HB);(case side2=>exact X.out);rintro e w8 ⟨rfl,hb⟩;refine⟨_,rfl,?_⟩;replace G:=bkB G hb;replace HB:=hbB HB hb;(try clear hb);obtain⟨ap,aq,ar,ax,ay,az⟩:=cell3 G)|((with_reducible refine gC 47 rfl ?_);refine cG (some 15) Tryd.func47 #[.agg #[.int .i64 I,.int .i64 J,.slice O D.length U],.int .u64 a1] ?_;(with_reducible refine(recoupref07_rank.calls k I J _ _ D a1 ab _ ?side1 ?side2 A5.out).mono ?_);(case side1=>exact kcB Y HB);(case side2=>exact X.out);rintro e a2 ⟨rfl,hb⟩;refine⟨_,rfl,?_⟩;replace G:=bkB G hb;replace HB:=hbB HB hb;(try clear hb)))
  go_ret2
  exact⟨rfE,hbA HB.out⟩
 ·rw[if_neg c4]at H
  have c4b0:(L==0)=false:=beq_eq_false_iff_ne.mpr c4;have c4b1:(L !=0)=true:=bne_iff_ne.mpr c4;obtain⟨rfl,rfl⟩:=zP2 H
  go_enter Tryd.func46,Tryd.ntmps46
  go_wp2_with (first|((with_reducible refine gD 2 rfl ?_);refine bE 2 #[.int .i64 I,.int .i64 J,.slice O D.length U] 24 ?_;intro af hg a3 hbox hb;have G:=aK (hbox);have ae:=hbS HB hg;have ac:=hbS HB hg;replace HB:=hbB HB hb;clear hb hbox hg;obtain⟨ag,ah,ai,aj,ak,al⟩:=cell3 G)|((with_reducible refine gC 75 rfl ?_);refine cG (some 9) Tryd.func75 #[.agg #[.int .i64 I,.int .i64 J,.slice O D.length U],.int .u64 a1] ?_;(with_reducible refine(recoupref07_bad.calls k I J _ _ D a1 L _ ?side1 ?side2 A3.out).mono ?_);(case side1=>exact kcB Y HB);(case side2=>exact X.out);rintro e a4 ⟨rfl,hb⟩;refine⟨_,rfl,?_⟩;replace G:=bkB G hb;replace HB:=hbB HB hb;(try clear hb)))
  go_ret2
  exact⟨rfE,hbA HB.out⟩
def recoupref19_bad.f(D:Int)(G:Int)(I:List Int)(a1:Int):Option (Int):=(recoupref16_Generator.f D G I).bind fun J=>(if J=true then(if a1<0 then(some 2)else(if a1>=D then(some 2)else(some 0)))else(some 3))
theorem recoupref19_bad.calls(G:Int)(J:Int)(L:Option Addr)(O:Nat)(I:List Int)(a1:Int)(r:Int)(w:World)(ac:Kd.C (Kd.int .u8) w L I.length I)(ab:I.length<=O)(h:recoupref19_bad.f G J I a1=some r):
 Calls Tryd.prog 39 #[.agg #[.int .i64 G,.int .i64 J,.slice L I.length O],.int .i64 a1] w fun e w'=>e= .returned (.int .i64 r)/\Below w.heap.size w w':=by
 have bi:=Tryd.underlying24;have X:=aK ac;have U:=aK ab;clear ac ab;have HB:=aK (Below.refl w.heap.size w);have H:((recoupref16_Generator.f G J I).bind fun ae=>(if ae=true then(if a1<0 then(some 2)else(if a1>=G then(some 2)else(some 0)))else(some 3)))=some r:=h;clear h;obtain⟨ae,A3,H⟩:=bindO H
 (try dsimp only at H)
 by_cases c4:ae=true
 ·subst c4;rw[if_pos rfl]at H
  by_cases c5:a1<0
  ·rw[if_pos c5]at H
   have c5b0:decide (a1<0)=true:=decide_eq_true c5;clear c5;obtain rfl:=Option.some.inj H
   go_enter Tryd.func39,Tryd.ntmps39
   go_wp2_with (first|((with_reducible refine gD 2 rfl ?_);refine bE 2 #[.int .i64 G,.int .i64 J,.slice L I.length O] 24 ?_;intro aa hg w6 hbox hb;have D:=aK (hbox);have Z:=hbS HB hg;have Y:=hbS HB hg;replace HB:=hbB HB hb;clear hb hbox hg;obtain⟨bc,bd,be,bf,bg,bh⟩:=cell3 D)|((with_reducible refine gC 14 rfl ?_);refine cG (some 6) Tryd.func14 #[.agg #[.int .i64 G,.int .i64 J,.slice L I.length O]] ?_;(with_reducible refine(recoupref16_Generator.calls G J _ _ I true _ ?side1 ?side2 A3.out).mono ?_);(case side1=>exact kcB X HB);(case side2=>exact U.out);rintro e w8 ⟨rfl,hb⟩;refine⟨_,rfl,?_⟩;replace D:=bkB D hb;replace HB:=hbB HB hb;(try clear hb)))
   go_ret
   exact⟨rfE,hbA HB.out⟩
  ·rw[if_neg c5]at H
   have c5b0:decide (a1<0)=false:=decide_eq_false c5;clear c5;by_cases c9:a1>=G
   ·rw[if_pos c9]at H
    have c9b0:decide (G<=a1)=true:=decide_eq_true c9;clear c9;obtain rfl:=Option.some.inj H
    go_enter Tryd.func39,Tryd.ntmps39
    go_wp2_with (first|((with_reducible refine gD 2 rfl ?_);refine bE 2 #[.int .i64 G,.int .i64 J,.slice L I.length O] 24 ?_;intro aa hg bj hbox hb;have D:=aK (hbox);have Z:=hbS HB hg;have Y:=hbS HB hg;replace HB:=hbB HB hb;clear hb hbox hg;obtain⟨af,ag,ah,aw,ax,ay⟩:=cell3 D)|((with_reducible refine gC 14 rfl ?_);refine cG (some 6) Tryd.func14 #[.agg #[.int .i64 G,.int .i64 J,.slice L I.length O]] ?_;(with_reducible refine(recoupref16_Generator.calls G J _ _ I true _ ?side1 ?side2 A3.out).mono ?_);(case side1=>exact kcB X HB);(case side2=>exact U.out);rintro e bk ⟨rfl,hb⟩;refine⟨_,rfl,?_⟩;replace D:=bkB D hb;replace HB:=hbB HB hb;(try clear hb);obtain⟨ai,aj,ak,az,a0,a2⟩:=cell3 D))
    go_ret
    exact⟨rfE,hbA HB.out⟩
   ·rw[if_neg c9]at H
    have c9b0:decide (G<=a1)=false:=decide_eq_false c9;clear c9;obtain rfl:=Option.some.inj H
    go_enter Tryd.func39,Tryd.ntmps39
    go_wp2_with (first|((with_reducible refine gD 2 rfl ?_);refine bE 2 #[.int .i64 G,.int .i64 J,.slice L I.length O] 24 ?_;intro aa hg bl hbox hb;have D:=aK (hbox);have Z:=hbS HB hg;have Y:=hbS HB hg;replace HB:=hbB HB hb;clear hb hbox hg;obtain⟨al,am,an,a3,a4,a5⟩:=cell3 D)|((with_reducible refine gC 14 rfl ?_);refine cG (some 6) Tryd.func14 #[.agg #[.int .i64 G,.int .i64 J,.slice L I.length O]] ?_;(with_reducible refine(recoupref16_Generator.calls G J _ _ I true _ ?side1 ?side2 A3.out).mono ?_);(case side1=>exact kcB X HB);(case side2=>exact U.out);rintro e bm ⟨rfl,hb⟩;refine⟨_,rfl,?_⟩;replace D:=bkB D hb;replace HB:=hbB HB hb;(try clear hb);obtain⟨ao,ap,aq,a6,a7,a8⟩:=cell3 D))
    go_ret
    exact⟨rfE,hbA HB.out⟩
 ·replace c4:=Bool.eq_false_iff.mpr c4;subst c4;rw[if_neg nofT]at H
  obtain rfl:=Option.some.inj H
  go_enter Tryd.func39,Tryd.ntmps39
  go_wp2_with (first|((with_reducible refine gD 2 rfl ?_);refine bE 2 #[.int .i64 G,.int .i64 J,.slice L I.length O] 24 ?_;intro aa hg bn hbox hb;have D:=aK (hbox);have Z:=hbS HB hg;have Y:=hbS HB hg;replace HB:=hbB HB hb;clear hb hbox hg;obtain⟨ar,au,av,a9,ba,bb⟩:=cell3 D)|((with_reducible refine gC 14 rfl ?_);refine cG (some 6) Tryd.func14 #[.agg #[.int .i64 G,.int .i64 J,.slice L I.length O]] ?_;(with_reducible refine(recoupref16_Generator.calls G J _ _ I false _ ?side1 ?side2 A3.out).mono ?_);(case side1=>exact kcB X HB);(case side2=>exact U.out);rintro e bo ⟨rfl,hb⟩;refine⟨_,rfl,?_⟩;replace D:=bkB D hb;replace HB:=hbB HB hb;(try clear hb)))
  go_ret
  exact⟨rfE,hbA HB.out⟩
def recoupref19_repairs.f(k:Nat)(D:Int)(G:Int)(I:List Int)(a1:Int)(a2:Int):Option (Bool):=(recoupref06_Has.f a2 a1).bind fun O=>(if O=true then(some false)else((recoupref07_Rank.f k D G I a2).bind fun J=>(if 0<=(IntKind.u64.wrap (a1))then((recoupref07_Rank.f k D G I (Go.bits .or .u64 a2 (shl .u64 1 (IntKind.u64.wrap (a1))))).bind fun L=>(some (J.1==L.1)))else(none))))
theorem recoupref19_repairs.calls(k:Nat)(G:Int)(I:Int)(Y:Option Addr)(Z:Nat)(D:List Int)(a1:Int)(a2:Int)(r:Bool)(w:World)(af:Kd.C (Kd.int .u8) w Y D.length D)(ae:D.length<=Z)(h:recoupref19_repairs.f k G I D a1 a2=some r):
 Calls Tryd.prog 40 #[.agg #[.int .i64 G,.int .i64 I,.slice Y D.length Z],.int .i64 a1,.int .u64 a2] w fun e w'=>e= .returned (.bool r)/\Below w.heap.size w w':=by
 have a6:=Tryd.underlying24;have ac:=aK af;have ab:=aK ae;clear af ae;have HB:=aK (Below.refl w.heap.size w);have H:((recoupref06_Has.f a2 a1).bind fun ag=>(if ag=true then(some false)else((recoupref07_Rank.f k G I D a2).bind fun ak=>(if 0<=(IntKind.u64.wrap (a1))then((recoupref07_Rank.f k G I D (Go.bits .or .u64 a2 (shl .u64 1 (IntKind.u64.wrap (a1))))).bind fun O=>(some (ak.1==O.1)))else(none)))))=some r:=h;clear h;obtain⟨ag,A4,H⟩:=bindO H
 (try dsimp only at H)
 by_cases c5:ag=true
 ·subst c5;rw[if_pos rfl]at H
  obtain rfl:=Option.some.inj H
  go_enter Tryd.func40,Tryd.ntmps40
  go_wp2_with (first|((with_reducible refine gD 3 rfl ?_);refine bE 3 #[.int .i64 G,.int .i64 I,.slice Y D.length Z] 24 ?_;intro al hg w6 hbox hb;have L:=aK (hbox);have aj:=hbS HB hg;have ai:=hbS HB hg;replace HB:=hbB HB hb;clear hb hbox hg)|((with_reducible refine gC 18 rfl ?_);refine cG (some 13) Tryd.func18 #[.int .u64 a2,.int .i64 a1] ?_;(with_reducible refine(recoupref06_Has.calls a2 a1 true _ A4.out).mono ?_);rintro e w' ⟨rfl,⟨nd,rfl⟩⟩;refine⟨_,rfl,?_⟩))
  go_ret
  exact⟨rfE,hbA HB.out⟩
 ·replace c5:=Bool.eq_false_iff.mpr c5;subst c5;rw[if_neg nofT]at H
  obtain⟨⟨ah,a0⟩,A7,H⟩:=bindO H
  (try dsimp only at H)
  obtain⟨X,aa⟩: ∃j_:Int,(IntKind.u64.wrap (a1))=j_:=⟨_,rfl⟩
  replace H:(if 0<=(X)then((recoupref07_Rank.f k G I D (Go.bits .or .u64 a2 (shl .u64 1 (X)))).bind fun O=>(some (ah==O.1)))else(none))=some r:=by first|(rw[aa]at H;exact H)|(simp only[aa]at H⊢;exact H)
  (try rw[aa]at A4)
  (try rw[aa]at A7)
  by_cases c9:0<=(X)
  ·rw[if_pos c9]at H
   have c9b0:=eq_true c9;have c9b1:decide (0<=(X))=true:=decide_eq_true c9;clear c9;obtain⟨U,J⟩: ∃j_:Int,(shl .u64 1 (X))=j_:=⟨_,rfl⟩
   replace H:((recoupref07_Rank.f k G I D (Go.bits .or .u64 a2 (U))).bind fun O=>(some (ah==O.1)))=some r:=by first|(rw[J]at H;exact H)|(simp only[J]at H⊢;exact H)
   (try rw[J]at A4)
   (try rw[J]at A7)
   have hji10_:(IntKind.u64.wrap (1*2^min (X).toNat 64))=U:=J;have hji10z:(X)<=64->(IntKind.u64.wrap (1*2^(X).toNat))=U:=shl_small J;have hji10u:(IntKind.u64.wrap (2^min (X).toNat 64))=U:=by have h_:=hji10_;rw[Int.one_mul]at h_;exact h_
   have hji10v:(X)<=64->(IntKind.u64.wrap (2^(X).toNat))=U:=fun hle_=>by have h_:=hji10z hle_;rw[Int.one_mul]at h_;exact h_
   obtain⟨⟨a3,a4⟩,a5,H⟩:=bindO H
   (try dsimp only at H)
   obtain rfl:=Option.some.inj H
   go_enter Tryd.func40,Tryd.ntmps40
   go_wp2_with (first|((with_reducible refine gD 3 rfl ?_);refine bE 3 #[.int .i64 G,.int .i64 I,.slice Y D.length Z] 24 ?_;intro al hg a7 hbox hb;have L:=aK (hbox);have aj:=hbS HB hg;have ai:=hbS HB hg;replace HB:=hbB HB hb;clear hb hbox hg)|((with_reducible refine gC 18 rfl ?_);refine cG (some 13) Tryd.func18 #[.int .u64 a2,.int .i64 a1] ?_;(with_reducible refine(recoupref06_Has.calls a2 a1 false _ A4.out).mono ?_);rintro e w' ⟨rfl,⟨nd,rfl⟩⟩;refine⟨_,rfl,?_⟩;obtain⟨am,an,ao,au,av,aw⟩:=cell3 L)|((with_reducible refine gC 46 rfl ?_);refine cG (some 17) Tryd.func46 #[.agg #[.int .i64 G,.int .i64 I,.slice Y D.length Z],.int .u64 a2] ?_;(with_reducible refine(recoupref07_Rank.calls k G I _ _ D a2 ah a0 _ ?side1 ?side2 A7.out).mono ?_);(case side1=>repeat(first|exact(Kd.C_below ac.out (hbA HB.out))|(with_reducible refine Kd.C_alloc ?_ _)|(with_reducible refine Kd.C_drewN ?_ _)|(with_reducible refine Kd.C_drew ?_)));(case side2=>exact ab.out);rintro e a8 ⟨rfl,hb⟩;refine⟨_,rfl,?_⟩;replace L:=bkB L hb;replace HB:=hbB HB hb;(try clear hb);obtain⟨ap,aq,ar,ax,ay,az⟩:=cell3 L)|((with_reducible refine gC 46 rfl ?_);refine goesL_ (some 27) rfl rfl Tryd.func46 zc rfl #[.agg #[.int .i64 G,.int .i64 I,.slice Y D.length Z],.int .u64 (Go.bits .or .u64 a2 (U))] rfl (by(try simp only[List.map_toArray,List.map_cons,List.map_nil]);first|done|(simp only[J];rfl)|rfl|(simp only[List.length_drop,List.length_take];rfl)) ?_;(with_reducible refine(recoupref07_Rank.calls k G I _ _ D (Go.bits .or .u64 a2 (U)) a3 a4 _ ?side1 ?side2 a5.out).mono ?_);(case side1=>exact kcB ac HB);(case side2=>exact ab.out);rintro e a9 ⟨rfl,hb⟩;refine⟨_,rfl,?_⟩;replace L:=bkB L hb;replace HB:=hbB HB hb;(try clear hb)))
   go_ret
   exact⟨by first|rfl|(simp[errW_none,errW_some]<;>rfl)|(simp only[<-aa,<-J];first|rfl|(simp[errW_none,errW_some]<;>rfl))|(simp[*,errW_none,errW_some]<;>rfl),hbA HB.out⟩
  ·rw[if_neg c9]at H
   exact absurd H zd
def recoupref19_others.f(k:Nat)(G:Int)(I:Int)(J:List Int)(a1:Int):Option (Int):=(recoupref06_Full.f k G).bind fun D=>(if 0<=(IntKind.u64.wrap (a1))then(some (Go.bits .andNot .u64 D.1 (shl .u64 1 (IntKind.u64.wrap (a1)))))else(none))
theorem recoupref19_others.calls(k:Nat)(G:Int)(U:Int)(O:Option Addr)(X:Nat)(J:List Int)(a1:Int)(r:Int)(w:World)(Z:Kd.C (Kd.int .u8) w O J.length J)(Y:J.length<=X)(h:recoupref19_others.f k G U J a1=some r):
 Calls Tryd.prog 41 #[.agg #[.int .i64 G,.int .i64 U,.slice O J.length X],.int .i64 a1] w fun e w'=>e= .returned (.int .u64 r)/\Below w.heap.size w w':=by
 have ar:=Tryd.underlying24;have ap:=aK Z;have ao:=aK Y;clear Z Y;have HB:=aK (Below.refl w.heap.size w);have H:((recoupref06_Full.f k G).bind fun ae=>(if 0<=(IntKind.u64.wrap (a1))then(some (Go.bits .andNot .u64 ae.1 (shl .u64 1 (IntKind.u64.wrap (a1)))))else(none)))=some r:=h;clear h;obtain⟨⟨ab,af⟩,A3,H⟩:=bindO H
 (try dsimp only at H)
 obtain⟨D,L⟩: ∃j_:Int,(IntKind.u64.wrap (a1))=j_:=⟨_,rfl⟩
 replace H:(if 0<=(D)then(some (Go.bits .andNot .u64 ab (shl .u64 1 (D))))else(none))=some r:=by first|(rw[L]at H;exact H)|(simp only[L]at H⊢;exact H)
 (try rw[L]at A3)
 by_cases c5:0<=(D)
 ·rw[if_pos c5]at H
  have c5b0:=eq_true c5;have c5b1:decide (0<=(D))=true:=decide_eq_true c5;clear c5;obtain⟨aa,I⟩: ∃j_:Int,(shl .u64 1 (D))=j_:=⟨_,rfl⟩
  replace H:(some (Go.bits .andNot .u64 ab (aa)))=some r:=by first|(rw[I]at H;exact H)|(simp only[I]at H⊢;exact H)
  (try rw[I]at A3)
  have hji6_:(IntKind.u64.wrap (1*2^min (D).toNat 64))=aa:=I;have hji6z:(D)<=64->(IntKind.u64.wrap (1*2^(D).toNat))=aa:=shl_small I;have hji6u:(IntKind.u64.wrap (2^min (D).toNat 64))=aa:=by have h_:=hji6_;rw[Int.one_mul]at h_;exact h_
  have hji6v:(D)<=64->(IntKind.u64.wrap (2^(D).toNat))=aa:=fun hle_=>by have h_:=hji6z hle_;rw[Int.one_mul]at h_;exact h_
  obtain rfl:=Option.some.inj H
  go_enter Tryd.func41,Tryd.ntmps41
  go_wp2_with (first|((with_reducible refine gD 2 rfl ?_);refine bE 2 #[.int .i64 G,.int .i64 U,.slice O J.length X] 24 ?_;intro aq hg w7 hbox hb;have ac:=aK (hbox);have an:=hbS HB hg;have am:=hbS HB hg;replace HB:=hbB HB hb;clear hb hbox hg;obtain⟨ag,ah,ai,aj,ak,al⟩:=cell3 ac)|((with_reducible refine gC 17 rfl ?_);refine cG (some 10) Tryd.func17 #[.int .i64 G] ?_;(with_reducible refine(recoupref06_Full.calls k G ab af _ A3.out).mono ?_);rintro e w' ⟨rfl,⟨nd,rfl⟩⟩;refine⟨_,rfl,?_⟩))
  go_ret
  exact⟨by first|rfl|(simp[errW_none,errW_some]<;>rfl)|(simp only[<-L,<-I];first|rfl|(simp[errW_none,errW_some]<;>rfl))|(simp[*,errW_none,errW_some]<;>rfl),hbA HB.out⟩
 ·rw[if_neg c5]at H
  exact absurd H zd
def recoupref06_First.f(k:Nat)(a0:Int):Option (Int):=(recoupref06_Full.f k a0).bind fun D=>(some D.1)
theorem recoupref06_First.calls(k:Nat)(a0:Int)(r:Int)(w:World)(h:recoupref06_First.f k a0=some r):
 Calls Tryd.prog 71 #[.int .i64 a0] w fun e w'=>e= .returned (.int .u64 r)/\Drawn0 w w':=by
 have H:((recoupref06_Full.f k a0).bind fun D=>(some D.1))=some r:=h;clear h;obtain⟨⟨G,I⟩,A2,H⟩:=bindO H
 (try dsimp only at H)
 obtain rfl:=Option.some.inj H
 go_enter Tryd.func71,Tryd.ntmps71
 go_wp2_with (first|((with_reducible refine gC 17 rfl ?_);refine cG (some 7) Tryd.func17 #[.int .i64 a0] ?_;(with_reducible refine(recoupref06_Full.calls k a0 G I _ A2.out).mono ?_);rintro e w' ⟨rfl,⟨nd,rfl⟩⟩;refine⟨_,rfl,?_⟩))
 go_ret
 exact zD
def recoupref06_Of.l0:Nat->List Int->Int->Int->Option (Int×Int)
 |0,_,_,_=>none
 |k+1,x0,x4,x5=>if x5<(x0.length:Int)then(if 0<=x5 then(if(rd x0 x5)<0 then(some (0,2))else(if(rd x0 x5)>63 then(some (0,2))else(if 0<=(IntKind.u64.wrap (rd x0 x5))then(recoupref06_Of.l0 k x0 (Go.bits .or .u64 x4 (shl .u64 1 (IntKind.u64.wrap (rd x0 x5)))) (wrap64 (x5+1)))else(none))))else(none))else(some (x4,0))
def recoupref06_Of.f(k:Nat)(l0:List Int):Option (Int×Int):=recoupref06_Of.l0 k l0 0 0
theorem recoupref06_Of.calls(k:Nat)(A0:Option Addr)(c0:Nat)(l0:List Int)(r1:Int)(r2:Int)(w:World)(ao:Kd.C (Kd.int .i64) w A0 l0.length l0)(an:l0.length<=c0)(h:recoupref06_Of.f k l0=some (r1,r2)):
 Calls Tryd.prog 112 #[.slice A0 l0.length c0] w fun e w'=>e= .returned (.tuple #[.int .u64 r1,.int .i64 r2])/\Drawn0 w w':=by
 have ac:=aK ao;have aq:=aK an;clear ao an;have H:(recoupref06_Of.l0 k l0 0 0)=some (r1,r2):=h;clear h;have H':=aK H;clear H
 go_enter Tryd.func112,Tryd.ntmps112
 go_wp2
 go_loopg [4,5] k (fun kq v4 v5 w'=> ∃(X:Int) (D:Int),v4= .int .u64 X/\v5= .int .i64 D/\Aside0 (recoupref06_Of.l0 kq l0 X D=some (r1,r2))/\Aside0 (kq<=k)/\Drawn0 w w')
 case atStart=>exact⟨(0),(0),rsE,rsE,H',⟨Nat.le_refl _⟩,by repeat(first|exact Drawn0.refl _|apply Drawn0.step)⟩
 case round=>
  clear H'
  (try clear c1)
  obtain⟨X,D,rfl,rfl,HA,al,⟨m1,rfl⟩⟩:=hrel
  cases gk with
  |zero=>exact absurd HA.out (by simp[recoupref06_Of.l0])
  |succ k1=>
   have H:=HA.out;clear HA;simp only[recoupref06_Of.l0]at H;by_cases c2:D<(l0.length:Int)
   case neg=>
    rw[if_neg c2]at H
    have c2b0:decide (D<(l0.length:Int))=false:=decide_eq_false c2;clear c2;obtain⟨rfl,rfl⟩:=zP2 H;go_wp2
    go_ret2
    exact zD
   rw[if_pos c2]at H
   have c2b0:decide (D<(l0.length:Int))=true:=decide_eq_true c2;clear c2;by_cases c3:0<=D
   case neg=>rw[if_neg c3]at H;exact absurd H zd
   rw[if_pos c3]at H
   have c3b0:decide (0<=D)=true:=decide_eq_true c3;clear c3;by_cases c4:(rd l0 D)<0
   ·rw[if_pos c4]at H
    have c4b0:decide ((rd l0 D)<0)=true:=decide_eq_true c4;clear c4;obtain⟨rfl,rfl⟩:=zP2 H;have G:0<=(D:Int):=of_decide_eq_true asE;have I:D<(l0.length:Int):=of_decide_eq_true asE;obtain⟨J,Y,aa⟩:=Kd.at_int ac.out D G I
    cases Y
    replace G:=eq_true G;replace I:=eq_true I;go_wp2
    go_ret2
    exact zD
   rw[if_neg c4]at H
   have c4b0:decide ((rd l0 D)<0)=false:=decide_eq_false c4;clear c4;by_cases c5:(rd l0 D)>63
   ·rw[if_pos c5]at H
    have c5b0:decide (63<(rd l0 D))=true:=decide_eq_true c5;clear c5;obtain⟨rfl,rfl⟩:=zP2 H;have G:0<=(D:Int):=of_decide_eq_true asE;have I:D<(l0.length:Int):=of_decide_eq_true asE;obtain⟨J,Y,aa⟩:=Kd.at_int ac.out D G I
    cases Y
    replace G:=eq_true G;replace I:=eq_true I;have O:0<=(D:Int):=of_decide_eq_true asE;have U:D<(l0.length:Int):=of_decide_eq_true asE;obtain⟨ab,af,ag⟩:=Kd.at_int ac.out D O U;obtain rfl:J=ab:=(by injection af)
    replace O:=eq_true O;replace U:=eq_true U;go_wp2
    go_ret2
    exact zD
   rw[if_neg c5]at H
   have c5b0:decide (63<(rd l0 D))=false:=decide_eq_false c5;clear c5;obtain⟨L,aj⟩: ∃j_:Int,(IntKind.u64.wrap (rd l0 D))=j_:=⟨_,rfl⟩
   replace H:(if 0<=(L)then(recoupref06_Of.l0 k1 l0 (Go.bits .or .u64 X (shl .u64 1 (L))) (wrap64 (D+1)))else(none))=some (r1,r2):=by first|(rw[aj]at H;exact H)|(simp only[aj]at H⊢;exact H)
   by_cases c7:0<=(L)
   case neg=>rw[if_neg c7]at H;exact absurd H zd
   rw[if_pos c7]at H
   have c7b0:=eq_true c7;have c7b1:decide (0<=(L))=true:=decide_eq_true c7;clear c7;obtain⟨ae,Z⟩: ∃j_:Int,(shl .u64 1 (L))=j_:=⟨_,rfl⟩
   replace H:(recoupref06_Of.l0 k1 l0 (Go.bits .or .u64 X (ae)) (wrap64 (D+1)))=some (r1,r2):=by first|(rw[Z]at H;exact H)|(simp only[Z]at H⊢;exact H)
   have hji8_:(IntKind.u64.wrap (1*2^min (L).toNat 64))=ae:=Z;have hji8z:(L)<=64->(IntKind.u64.wrap (1*2^(L).toNat))=ae:=shl_small Z;have hji8u:(IntKind.u64.wrap (2^min (L).toNat 64))=ae:=by have h_:=hji8_;rw[Int.one_mul]at h_;exact h_
   have hji8v:(L)<=64->(IntKind.u64.wrap (2^(L).toNat))=ae:=fun hle_=>by have h_:=hji8z hle_;rw[Int.one_mul]at h_;exact h_
   have H':=aK H;clear H;have G:0<=(D:Int):=of_decide_eq_true asE;have I:D<(l0.length:Int):=of_decide_eq_true asE;obtain⟨J,Y,aa⟩:=Kd.at_int ac.out D G I
   cases Y
   replace G:=eq_true G;replace I:=eq_true I;have O:0<=(D:Int):=of_decide_eq_true asE;have U:D<(l0.length:Int):=of_decide_eq_true asE;obtain⟨ab,af,ag⟩:=Kd.at_int ac.out D O U;obtain rfl:J=ab:=(by injection af)
   replace O:=eq_true O;replace U:=eq_true U;have ah:0<=(D:Int):=of_decide_eq_true asE;have ai:D<(l0.length:Int):=of_decide_eq_true asE;obtain⟨ak,am,ap⟩:=Kd.at_int ac.out D ah ai;obtain rfl:J=ak:=(by injection am)
   replace ah:=eq_true ah;replace ai:=eq_true ai;go_wp2
   go_roundg k1
   case measure=>have:=al.out;omega
   case rel=>exact⟨(Go.bits .or .u64 X (ae)),(wrap64 (D+1)),za3,rsE,H',⟨by have:=al.out;omega⟩,by repeat(first|exact Drawn0.refl _|apply Drawn0.step)⟩
def recoupref06_of.f(k:Nat)(l0:List Int):Option (Int):=(recoupref06_Of.f k l0).bind fun D=>(some D.1)
theorem recoupref06_of.calls(k:Nat)(A0:Option Addr)(c0:Nat)(l0:List Int)(r:Int)(w:World)(I:Kd.C (Kd.int .i64) w A0 l0.length l0)(G:l0.length<=c0)(h:recoupref06_of.f k l0=some r):
 Calls Tryd.prog 94 #[.slice A0 l0.length c0] w fun e w'=>e= .returned (.int .u64 r)/\Drawn0 w w':=by
 have U:=aK I;have O:=aK G;clear I G;have H:((recoupref06_Of.f k l0).bind fun D=>(some D.1))=some r:=h;clear h;obtain⟨⟨J,L⟩,A2,H⟩:=bindO H
 (try dsimp only at H)
 obtain rfl:=Option.some.inj H
 go_enter Tryd.func94,Tryd.ntmps94
 go_wp2_with (first|((with_reducible refine gC 112 rfl ?_);refine cG (some 7) Tryd.func112 #[.slice A0 l0.length c0] ?_;(with_reducible refine(recoupref06_Of.calls k _ _ l0 J L _ ?side1 ?side2 A2.out).mono ?_);(case side1=>exact kcA U.out);(case side2=>exact O.out);rintro e w' ⟨rfl,⟨nd,rfl⟩⟩;refine⟨_,rfl,?_⟩))
 go_ret
 exact zD
mutual
def recoupref06_Next.j0:Nat->Int->Int->Bool->Option (Int×Bool)
 |0,_,_,_=>none
 |k+1,x0,x1,G=>if G=true then(some (0,false))else((recoupref06_List.f k x1).bind fun D=>(recoupref06_Next.l0 k x0 D (wrap64 ((D.length:Int)-1))))
def recoupref06_Next.l0:Nat->Int->List Int->Int->Option (Int×Bool)
 |0,_,_,_=>none
 |k+1,x0,x8,x9=>if x9>=0 then(if 0<=x9 then(if x9<(x8.length:Int)then(if(rd x8 x9)<(wrap64 ((wrap64 (x0-(x8.length:Int)))+x9))then(recoupref06_Next.l1 k (x8.set (x9:Int).toNat (wrap64 ((rd x8 x9)+1))) (wrap64 (x9+1)))else(recoupref06_Next.l0 k x0 x8 (wrap64 (x9-1))))else(none))else(none))else(some (0,false))
def recoupref06_Next.l1:Nat->List Int->Int->Option (Int×Bool)
 |0,_,_=>none
 |k+1,x8,D=>if D<(x8.length:Int)then(if 0<=(wrap64 (D-1))then(if(wrap64 (D-1))<(x8.length:Int)then(if 0<=D then(recoupref06_Next.l1 k (x8.set (D:Int).toNat (wrap64 ((rd x8 (wrap64 (D-1)))+1))) (wrap64 (D+1)))else(none))else(none))else(none))else((recoupref06_of.f k x8).bind fun G=>(some (G,true)))
end
def recoupref06_Next.f(k:Nat)(a0:Int)(a1:Int):Option (Int×Bool):=(recoupref06_Full.f k a0).bind fun D=>(if D.2=0 then(recoupref06_Next.j0 k a0 a1 ((Go.bits .andNot .u64 a1 D.1)!=0))else(recoupref06_Next.j0 k a0 a1 true))
theorem recoupref06_Next.calls(k:Nat)(a0:Int)(a1:Int)(r1:Int)(r2:Bool)(w:World)(h:recoupref06_Next.f k a0 a1=some (r1,r2)):
 Calls Tryd.prog 72 #[.int .i64 a0,.int .u64 a1] w fun e w'=>e= .returned (.tuple #[.int .u64 r1,.bool r2])/\Below w.heap.size w w':=by
 have HB:=aK (Below.refl w.heap.size w);have H:((recoupref06_Full.f k a0).bind fun av=>(if av.2=0 then(recoupref06_Next.j0 k a0 a1 ((Go.bits .andNot .u64 a1 av.1)!=0))else(recoupref06_Next.j0 k a0 a1 true)))=some (r1,r2):=h;clear h;obtain⟨⟨bi,ae⟩,A3,H⟩:=bindO H
 (try dsimp only at H)
 have bj:=aK H;clear H
 go_enter Tryd.func72,Tryd.ntmps72
 go_upto_region 2 with(first|((with_reducible refine gC 17 rfl ?_);refine cG (some 13) Tryd.func17 #[.int .i64 a0] ?_;(with_reducible refine(recoupref06_Full.calls k a0 bi ae _ A3.out).mono ?_);rintro e w' ⟨rfl,⟨nd,rfl⟩⟩;refine⟨_,rfl,?_⟩))
 (try simp only[Act.put,zL])
 go_cut [23] (fun b7 wc=> ∃(kq:Nat) (ag:Bool),b7= .bool ag/\Aside0 (recoupref06_Next.j0 kq a0 a1 ag=some (r1,r2))/\Aside0 (kq<=k)/\Aside0 (Below w.heap.size w wc))
 case first=>
  have H:=bj.out;clear bj;by_cases c5:ae=0
  case neg=>
   rw[if_neg c5]at H
   have c5b0:(ae==0)=false:=beq_eq_false_iff_ne.mpr c5;have c5b1:(ae !=0)=true:=bne_iff_ne.mpr c5
   (first|rw[c5b0] |(simp only[i64_w,i32_w];rw[c5b0])|skip)
   have H':=aK H;clear H;go_wp2
   go_meet
   case rel=>exact⟨_,(true),rsE,H',⟨leE⟩,⟨hbA HB.out⟩⟩
  rw[if_pos c5]at H
  have c5b0:(ae==0)=true:=beq_iff_eq.mpr c5;have c5b1:(ae !=0)=false:=bne_eq_false_iff_eq.mpr c5;clear c5
  (first|rw[c5b0] |(simp only[i64_w,i32_w];rw[c5b0])|skip)
  have H':=aK H;clear H;go_wp2
  go_meet
  case rel=>exact⟨_,(((Go.bits .andNot .u64 a1 bi)!=0)),rsE,H',⟨leE⟩,⟨hbA HB.out⟩⟩
 case rest=>
  clear bj
  (try clear c1);(try clear p2);(try clear c5);(try clear c5b0);(try clear c5b1)
  obtain⟨kq,ag,rfl,HA,a8,HB⟩:=hcut
  cases kq with
  |zero=>exact absurd HA.out (by simp[recoupref06_Next.j0])
  |succ bo=>
   have H:=HA.out;clear HA;simp only[recoupref06_Next.j0]at H;by_cases c6:ag=true
   ·subst c6;rw[if_pos rfl]at H
    obtain⟨rfl,rfl⟩:=zP2 H;go_wp2
    go_ret2
    exact⟨rfE,hbA HB.out⟩
   replace c6:=Bool.eq_false_iff.mpr c6;subst c6;rw[if_neg nofT]at H
   obtain⟨an,A7,H⟩:=bindO H
   (try dsimp only at H)
   have H':=aK H;clear H
   go_wp2_with (first|((with_reducible refine gC 23 rfl ?_);refine cG (some 25) Tryd.func23 #[.int .u64 a1] ?_;(with_reducible refine(recoupref06_List.calls bo a1 an _ A7.out).mono ?_);rintro e w8 ⟨ce,rfl,bx,hb⟩;refine⟨_,rfl,?_⟩;have ap:=aK (R_lower bx (below_size (hbA HB.out)));replace HB:=hbB HB hb;(try clear hb);(try clear bx);obtain⟨b4,ay,b5⟩:=R_slice ap.out;subst b5))
   go_loopg [9] bo (fun kq v9 w'=> ∃(I:List Int) (D:Int),v9= .int .i64 D/\Aside0 (recoupref06_Next.l0 kq a0 I D=some (r1,r2))/\Aside0 (kq<=bo)/\Aside0 (Kd.R (Kd.int .i64) 3 w' w.heap.size (fun _=>True) (.slice b4 an.length ay) I)/\Aside0 (Below w.heap.size w w'))
   case atStart=>exact⟨(an),(wrap64 ((an.length:Int)-1)),rsE,H',⟨Nat.le_refl _⟩,⟨kdA ap.out⟩,⟨hbA HB.out⟩⟩
   case round=>
    clear H'
    (try clear c1);(try clear c2);(try clear p2 p2);(try clear c5);(try clear c5b0);(try clear c5b1);(try clear c6);(try clear p6);(try clear c7)
    obtain⟨I,D,rfl,HA,a9,HO_8,HB⟩:=hrel;have U:=(R_reads' HO_8.out).1;rw[U]at HO_8
    (try simp only[U])
    cases gk with
    |zero=>exact absurd HA.out (by simp[recoupref06_Next.l0])
    |succ k2=>
     have H:=HA.out;clear HA;simp only[recoupref06_Next.l0]at H;by_cases ai:D>=0
     case neg=>
      rw[if_neg ai]at H
      have c10b0:decide (0<=D)=false:=decide_eq_false ai;clear ai;obtain⟨rfl,rfl⟩:=zP2 H;go_wp2
      go_ret2
      exact⟨rfE,hbA HB.out⟩
     rw[if_pos ai]at H
     have c10b0:decide (0<=D)=true:=decide_eq_true ai;clear ai;by_cases aw:0<=D
     case neg=>rw[if_neg aw]at H;exact absurd H zd
     rw[if_pos aw]at H
     have c11b0:decide (0<=D)=true:=decide_eq_true aw;clear aw;by_cases ax:D<(I.length:Int)
     case neg=>rw[if_neg ax]at H;exact absurd H zd
     rw[if_pos ax]at H
     have c12b0:decide (D<(I.length:Int))=true:=decide_eq_true ax;clear ax;by_cases aj:(rd I D)<(wrap64 ((wrap64 (a0-(I.length:Int)))+D))
     case neg=>
      rw[if_neg aj]at H
      have c13b0:decide ((rd I D)<(wrap64 ((wrap64 (a0-(I.length:Int)))+D)))=false:=decide_eq_false aj;clear aj;have H':=aK H;clear H;have X:0<=(D:Int):=of_decide_eq_true asE;have Y:D<(I.length:Int):=of_decide_eq_true asE;obtain⟨au,az,Z⟩:=Kd.at_int (R_reads' HO_8.out).2.2 D X Y
      cases az
      replace X:=eq_true X;replace Y:=eq_true Y;go_wp2
      (try simp only[<-U])
      go_roundg k2
      case measure=>have:=a8.out;have:=a9.out;omega
      case rel=>exact⟨(I),(wrap64 (D-1)),rsE,H',⟨by have:=a8.out;have:=a9.out;omega⟩,⟨by(try simp only[U]);(with_reducible repeat(first|apply R_alloc|apply R_drewN|apply R_drew));exact HO_8.out⟩,⟨hbA HB.out⟩⟩
     rw[if_pos aj]at H
     have c13b0:decide ((rd I D)<(wrap64 ((wrap64 (a0-(I.length:Int)))+D)))=true:=decide_eq_true aj;clear aj;obtain⟨a6,ab⟩: ∃y_:List Int,y_=(I.set (D:Int).toNat (wrap64 ((rd I D)+1))):=⟨_,rfl⟩
     replace H:(recoupref06_Next.l1 k2 a6 (wrap64 (D+1)))=some (r1,r2):=zH ab H
     have bk:=aK ab;clear ab;have H':=aK H;clear H;have X:0<=(D:Int):=of_decide_eq_true asE;have Y:D<(I.length:Int):=of_decide_eq_true asE;obtain⟨au,az,Z⟩:=Kd.at_int (R_reads' HO_8.out).2.2 D X Y
     cases az
     replace X:=eq_true X;replace Y:=eq_true Y;have al:0<=(D:Int):=of_decide_eq_true asE;have am:D<(I.length:Int):=of_decide_eq_true asE;obtain⟨bm,bu,ah⟩:=Kd.at_int (R_reads' HO_8.out).2.2 D al am;obtain rfl:au=bm:=(by injection bu)
     replace al:=eq_true al;replace am:=eq_true am;have a2:0<=(D:Int):=of_decide_eq_true asE;have a4:(D:Int)<((I.length:Int):Int):=of_decide_eq_true asE;obtain⟨O,ca,bg,bh,bw,b9,bf⟩:=R_form HO_8.out za
     (first|cases bg|(injection bg with ea_ en_ ec_;(first|subst ea_|(injection ea_ with ea_;subst ea_));subst ec_;clear en_))
     have be:=aK bh;have b8:=aK bf;clear bh bw bf
     (first|simp only[add_plain]at Z|skip)
     (first|simp only[add_plain]at ah|skip)
     obtain⟨bd,b0⟩:=R_celln 0 HO_8.out (D:Int) a2 a4;replace a2:=eq_true a2;replace a4:=eq_true a4;have aq:=R_putg HO_8.out (D:Int) (wrap64 ((rd I D)+1))
     go_wp2_with (first|((with_reducible refine gate_store (t:=3) (p:=49) rfl ?_);refine store_event (t:=3) (p:=49) (v:=?vo_w16) (w1:=(wr.setCell ⟨O,(D:Int).toNat,none⟩ (.int .i64 (wrap64 ((rd I D)+1))))) ?hg ?ho ?hn ?hr ?_;(case ho=>rfl);(case hg=>rfl);(case hn=>rfl);(case hr=>first|(go_simp;done)|(go_simp;rfl));intro br hw;have hg:wr.grownBy br (some O):=(by rw[hw];exact aq.2);have hp_:Kd.R (Kd.int .i64) 3 br w.heap.size (fun _=>True) (.slice (some ⟨O,0,none⟩) I.length ay) a6:=(by rw[hw,bk.out];exact aq.1);clear aq;replace HO_8:=aK (hp_);replace HB:=aK ((by rw[hw];exact below_set (HB.out) be.out:Below w.heap.size w br));clear hg hw hp_))
     go_loopg [10] k2 (fun kq b6 w'=> ∃(J:List Int) (G:Int),b6= .int .i64 G/\Aside0 (recoupref06_Next.l1 kq J G=some (r1,r2))/\Aside0 (kq<=k2)/\Aside0 (Kd.R (Kd.int .i64) 3 w' w.heap.size (fun _=>True) (.slice (some ⟨O,0,none⟩) I.length ay) J)/\Aside0 (Below w.heap.size w w'))
     case atStart=>exact⟨(a6),(wrap64 (D+1)),rsE,H',⟨Nat.le_refl _⟩,⟨by(try simp only[U]);(with_reducible repeat(first|apply R_alloc|apply R_drewN|apply R_drew));exact HO_8.out⟩,⟨hbA HB.out⟩⟩
     case round=>
      clear H'
      (try clear c1);(try clear p1);(try clear q1);(try clear cf);(try clear c2);(try clear p2 p2);(try clear p3);(try clear q3);(try clear cg);(try clear c5);(try clear c5b0);(try clear c5b1);(try clear c6);(try clear p6 p6);(try clear c7);(try clear ai);(try clear c10b0);(try clear aw);(try clear c11b0);(try clear ax);(try clear c12b0);(try clear aj);(try clear c13b0);(try clear a2 a2);(try clear a4 a4);(try clear cd);(try clear cb);(try clear bd);(try clear Z);(try clear ah);(try clear X);(try clear al);(try clear Y);(try clear am)
      obtain⟨J,G,rfl,HA,bt,HO_8,HB⟩:=hrel;have af:=(R_reads' HO_8.out).1;rw[af]at HO_8
      (try simp only[af])
      cases gk with
      |zero=>exact absurd HA.out (by simp[recoupref06_Next.l1])
      |succ k3=>
       have H:=HA.out;clear HA;simp only[recoupref06_Next.l1]at H;by_cases ao:G<(J.length:Int)
       case neg=>
        rw[if_neg ao]at H
        have c17b0:decide (G<(J.length:Int))=false:=decide_eq_false ao;clear ao;obtain⟨bz,b3,H⟩:=bindO H
        (try dsimp only at H)
        obtain⟨rfl,rfl⟩:=zP2 H
        go_wp2_with (first|((with_reducible refine gC 94 rfl ?_);refine cG (some 68) Tryd.func94 #[.slice (some ⟨O,0,none⟩) J.length ay] ?_;(with_reducible refine(recoupref06_of.calls k3 _ _ J bz _ ?side1 ?side2 b3.out).mono ?_);(case side1=>exact kcA (R_reads' HO_8.out).2.2);(case side2=>exact(R_reads' HO_8.out).2.1);rintro e w' ⟨rfl,⟨nd,rfl⟩⟩;refine⟨_,rfl,?_⟩))
        go_ret2
        exact⟨rfE,hbA HB.out⟩
       rw[if_pos ao]at H
       have c17b0:decide (G<(J.length:Int))=true:=decide_eq_true ao;clear ao;obtain⟨L,ak⟩: ∃j_:Int,(wrap64 (G-1))=j_:=⟨_,rfl⟩
       replace H:(if 0<=(L)then(if(L)<(J.length:Int)then(if 0<=G then(recoupref06_Next.l1 k3 (J.set (G:Int).toNat (wrap64 ((rd J (L))+1))) (wrap64 (G+1)))else(none))else(none))else(none))=some (r1,r2):=by first|(rw[ak]at H;exact H)|(simp only[ak]at H⊢;exact H)
       have hji18w:(IntKind.i64.wrap (G-1))=L:=(i64_w _).trans ak;by_cases ba:0<=(L)
       case neg=>rw[if_neg ba]at H;exact absurd H zd
       rw[if_pos ba]at H
       have c19b0:decide (0<=(L))=true:=decide_eq_true ba;clear ba;by_cases bb:(L)<(J.length:Int)
       case neg=>rw[if_neg bb]at H;exact absurd H zd
       rw[if_pos bb]at H
       have c20b0:decide ((L)<(J.length:Int))=true:=decide_eq_true bb;clear bb;by_cases bc:0<=G
       case neg=>rw[if_neg bc]at H;exact absurd H zd
       rw[if_pos bc]at H
       have c21b0:decide (0<=G)=true:=decide_eq_true bc;clear bc;obtain⟨a7,ac⟩: ∃y_:List Int,y_=(J.set (G:Int).toNat (wrap64 ((rd J (L))+1))):=⟨_,rfl⟩
       replace H:(recoupref06_Next.l1 k3 a7 (wrap64 (G+1)))=some (r1,r2):=zH ac H
       have bl:=aK ac;clear ac;have H':=aK H;clear H;have a3:0<=((L):Int):=of_decide_eq_true asE;have a5:(L)<(J.length:Int):=of_decide_eq_true asE;obtain⟨bn,bv,aa⟩:=Kd.at_int (R_reads' HO_8.out).2.2 (L) a3 a5;obtain rfl:(⟨O,0,none⟩:Addr)=bn:=(by injection bv)
       (first|simp only[add_plain]at aa|simp only[add_at]at aa|simp only[Addr.add,Nat.zero_add]at aa|skip)
       replace a3:=eq_true a3;replace a5:=eq_true a5;have bp:0<=(G:Int):=of_decide_eq_true asE;have bq:(G:Int)<((J.length:Int):Int):=of_decide_eq_true asE;obtain⟨b2,b1⟩:=R_celln 0 HO_8.out (G:Int) bp bq;replace bp:=eq_true bp;replace bq:=eq_true bq;have ar:=R_putg HO_8.out (G:Int) (wrap64 ((rd J (L))+1))
       go_wp2_with (first|((with_reducible refine gate_store (t:=3) (p:=66) rfl ?_);refine store_event (t:=3) (p:=66) (v:=?vo_w24) (w1:=(wr.setCell ⟨O,(G:Int).toNat,none⟩ (.int .i64 (wrap64 ((rd J (L))+1))))) ?hg ?ho ?hn ?hr ?_;(case ho=>rfl);(case hg=>rfl);(case hn=>rfl);(case hr=>first|(go_simp;done)|(go_simp;rfl));intro bs hw;have hg:wr.grownBy bs (some O):=(by rw[hw];exact ar.2);have hp_:Kd.R (Kd.int .i64) 3 bs w.heap.size (fun _=>True) (.slice (some ⟨O,0,none⟩) J.length ay) a7:=(by rw[hw,bl.out];exact ar.1);clear ar;replace HO_8:=aK (hp_);replace HB:=aK ((by rw[hw];exact below_set (HB.out) be.out:Below w.heap.size w bs));clear hg hw hp_))
       (try simp only[<-af])
       go_roundg k3
       case measure=>have:=a8.out;have:=a9.out;have:=bt.out;omega
       case rel=>exact⟨(a7),(wrap64 (G+1)),rsE,H',⟨by have:=a8.out;have:=a9.out;have:=bt.out;omega⟩,⟨by(try simp only[U]);(try simp only[af]);(with_reducible repeat(first|apply R_alloc|apply R_drewN|apply R_drew));exact HO_8.out⟩,⟨hbA HB.out⟩⟩
mutual
def recoupref19_first.l0:Nat->Int->Int->Int->Int->Int->List Int->Option (Int×Bool)
 |0,_,_,_,_,_,_=>none
 |k+1,x1,x6,x7,D,G,I=>if x7<D then((recoupref06_First.f k x7).bind fun J=>(recoupref19_first.l1 k x1 x6 x7 J true D G I))else(some (0,false))
def recoupref19_first.l1:Nat->Int->Int->Int->Int->Bool->Int->Int->List Int->Option (Int×Bool)
 |0,_,_,_,_,_,_,_,_=>none
 |k+1,x1,x6,x7,x8,x9,D,G,I=>if x9=true then((recoupref06_Has.f x8 x1).bind fun O=>(if O=true then((recoupref06_Next.f k D x8).bind fun J=>(recoupref19_first.l1 k x1 x6 x7 J.1 J.2 D G I))else(if x6=16384 then(some (0,false))else((recoupref19_repairs.f k D G I x1 x8).bind fun U=>(if U=true then(some (x8,true))else((recoupref06_Next.f k D x8).bind fun L=>(recoupref19_first.l1 k x1 (wrap64 (x6+1)) x7 L.1 L.2 D G I)))))))else(recoupref19_first.l0 k x1 x6 (wrap64 (x7+1)) D G I)
end
def recoupref19_first.f(k:Nat)(D:Int)(G:Int)(I:List Int)(a1:Int):Option (Int×Bool):=recoupref19_first.l0 k a1 0 0 D G I
theorem recoupref19_first.calls(k:Nat)(G:Int)(L:Int)(X:Option Addr)(Y:Nat)(J:List Int)(a1:Int)(r1:Int)(r2:Bool)(w:World)(aj:Kd.C (Kd.int .u8) w X J.length J)(ai:J.length<=Y)(h:recoupref19_first.f k G L J a1=some (r1,r2)):
 Calls Tryd.prog 42 #[.agg #[.int .i64 G,.int .i64 L,.slice X J.length Y],.int .i64 a1] w fun e w'=>e= .returned (.tuple #[.int .u64 r1,.bool r2])/\Below w.heap.size w w':=by
 have b1:=Tryd.underlying24;have ag:=aK aj;have af:=aK ai;clear aj ai;have HB:=aK (Below.refl w.heap.size w);have H:(recoupref19_first.l0 k a1 0 0 G L J)=some (r1,r2):=h;clear h;have H':=aK H;clear H
 go_enter Tryd.func42,Tryd.ntmps42
 go_wp2_with (first|((with_reducible refine gD 2 rfl ?_);refine bE 2 #[.int .i64 G,.int .i64 L,.slice X J.length Y] 24 ?_;intro ah hg w3 hbox hb;have D:=aK (hbox);have b0:=hbS HB hg;have bz:=hbS HB hg;replace HB:=hbB HB hb;clear hb hbox hg))
 go_loopg [6,7] k (fun kq v6 v7 w'=> ∃(aa:Int) (U:Int),v6= .int .i64 aa/\v7= .int .i64 U/\Aside0 (recoupref19_first.l0 kq a1 aa U G L J=some (r1,r2))/\Aside0 (kq<=k)/\Aside0 (w'.heap[ah]? =some (.cells #[.int .i64 G,.int .i64 L,(.slice X J.length Y)] 24 (0,0)))/\Aside0 (Below w.heap.size w w'))
 case atStart=>exact⟨(0),(0),rsE,rsE,H',⟨Nat.le_refl _⟩,⟨bkA D.out⟩,⟨hbA HB.out⟩⟩
 case round=>
  clear H'
  (try clear p2)
  obtain⟨aa,U,rfl,rfl,HA,ac,D,HB⟩:=hrel
  cases gk with
  |zero=>exact absurd HA.out (by simp[recoupref19_first.l0])
  |succ k1=>
   have H:=HA.out;clear HA;simp only[recoupref19_first.l0]at H;by_cases c4:U<G
   case neg=>
    rw[if_neg c4]at H
    have c4b0:decide (U<G)=false:=decide_eq_false c4;clear c4;obtain⟨rfl,rfl⟩:=zP2 H;obtain⟨bc,bd,be,br,bs,bt⟩:=cell3 D;go_wp2
    go_ret2
    exact⟨rfE,hbA HB.out⟩
   rw[if_pos c4]at H
   have c4b0:decide (U<G)=true:=decide_eq_true c4;clear c4;obtain⟨ar,A5,H⟩:=bindO H
   (try dsimp only at H)
   have H':=aK H;clear H;obtain⟨al,am,an,ao,ap,aq⟩:=cell3 D
   go_wp2_with (first|((with_reducible refine gC 71 rfl ?_);refine cG (some 17) Tryd.func71 #[.int .i64 U] ?_;(with_reducible refine(recoupref06_First.calls k1 U ar _ A5.out).mono ?_);rintro e w' ⟨rfl,⟨nd,rfl⟩⟩;refine⟨_,rfl,?_⟩))
   go_loopg [6,8,9] k1 (fun kq v6 v8 v9 w'=> ∃(O:Int) (I:Int) (ab:Bool),v6= .int .i64 O/\v8= .int .u64 I/\v9= .bool ab/\Aside0 (recoupref19_first.l1 kq a1 O U I ab G L J=some (r1,r2))/\Aside0 (kq<=k1)/\Aside0 (w'.heap[ah]? =some (.cells #[.int .i64 G,.int .i64 L,(.slice X J.length Y)] 24 (0,0)))/\Aside0 (Below w.heap.size w w'))
   case atStart=>exact⟨(aa),(ar),(true),rsE,rsE,rsE,H',⟨Nat.le_refl _⟩,⟨bkA D.out⟩,⟨hbA HB.out⟩⟩
   case round=>
    clear H'
    (try clear p2 p2);(try clear c4);(try clear c4b0);(try clear al am an ao ap aq)
    obtain⟨O,I,ab,rfl,rfl,rfl,HA,ae,D,HB⟩:=hrel
    cases gk with
    |zero=>exact absurd HA.out (by simp[recoupref19_first.l1])
    |succ k2=>
     have H:=HA.out;clear HA;simp only[recoupref19_first.l1]at H;by_cases c7:ab=true
     case neg=>
      replace c7:=Bool.eq_false_iff.mpr c7;subst c7;rw[if_neg nofT]at H
      have H':=aK H;clear H;go_wp2
      go_roundg k2
      case measure=>have:=ac.out;have:=ae.out;omega
      case rel=>exact⟨(O),(wrap64 (U+1)),rsE,rsE,H',⟨by have:=ac.out;have:=ae.out;omega⟩,⟨bkA D.out⟩,⟨hbA HB.out⟩⟩
     subst c7;rw[if_pos rfl]at H
     obtain⟨bu,A8,H⟩:=bindO H
     (try dsimp only at H)
     by_cases c9:bu=true
     ·subst c9;rw[if_pos rfl]at H
      obtain⟨⟨au,av⟩,bw,H⟩:=bindO H
      (try dsimp only at H)
      have H':=aK H;clear H
      go_wp2_with (first|((with_reducible refine gC 18 rfl ?_);refine cG (some 21) Tryd.func18 #[.int .u64 I,.int .i64 a1] ?_;(with_reducible refine(recoupref06_Has.calls I a1 true _ A8.out).mono ?_);rintro e w' ⟨rfl,⟨nd,rfl⟩⟩;refine⟨_,rfl,?_⟩;obtain⟨az,a0,a2,bf,bg,bh⟩:=cell3 D)|((with_reducible refine gC 72 rfl ?_);refine cG (some 36) Tryd.func72 #[.int .i64 G,.int .u64 I] ?_;(with_reducible refine(recoupref06_Next.calls k2 G I au av _ bw.out).mono ?_);rintro e b2 ⟨rfl,hb⟩;refine⟨_,rfl,?_⟩;replace D:=bkB D hb;replace HB:=hbB HB hb;(try clear hb)))
      go_roundg k2
      case measure=>have:=ac.out;have:=ae.out;omega
      case rel=>exact⟨(O),(au),(av),rsE,rsE,rsE,H',⟨by have:=ac.out;have:=ae.out;omega⟩,⟨bkA D.out⟩,⟨hbA HB.out⟩⟩
     replace c9:=Bool.eq_false_iff.mpr c9;subst c9;rw[if_neg nofT]at H
     by_cases Z:O=16384
     ·rw[if_pos Z]at H
      have c13b0:(O==16384)=true:=beq_iff_eq.mpr Z;have c13b1:(O !=16384)=false:=bne_eq_false_iff_eq.mpr Z;clear Z;obtain⟨rfl,rfl⟩:=zP2 H
      go_wp2_with (first|((with_reducible refine gC 18 rfl ?_);refine cG (some 21) Tryd.func18 #[.int .u64 I,.int .i64 a1] ?_;(with_reducible refine(recoupref06_Has.calls I a1 false _ A8.out).mono ?_);rintro e w' ⟨rfl,⟨nd,rfl⟩⟩;refine⟨_,rfl,?_⟩))
      go_ret2
      exact⟨rfE,hbA HB.out⟩
     rw[if_neg Z]at H
     have c13b0:(O==16384)=false:=beq_eq_false_iff_ne.mpr Z;have c13b1:(O !=16384)=true:=bne_iff_ne.mpr Z;obtain⟨bv,ay,H⟩:=bindO H
     (try dsimp only at H)
     by_cases ak:bv=true
     ·subst ak;rw[if_pos rfl]at H
      obtain⟨rfl,rfl⟩:=zP2 H
      go_wp2_with (first|((with_reducible refine gC 18 rfl ?_);refine cG (some 21) Tryd.func18 #[.int .u64 I,.int .i64 a1] ?_;(with_reducible refine(recoupref06_Has.calls I a1 false _ A8.out).mono ?_);rintro e w' ⟨rfl,⟨nd,rfl⟩⟩;refine⟨_,rfl,?_⟩;obtain⟨a3,a4,a5,bi,bj,bk⟩:=cell3 D)|((with_reducible refine gC 40 rfl ?_);refine cG (some 30) Tryd.func40 #[.agg #[.int .i64 G,.int .i64 L,.slice X J.length Y],.int .i64 a1,.int .u64 I] ?_;(with_reducible refine(recoupref19_repairs.calls k2 G L _ _ J a1 I true _ ?side1 ?side2 ay.out).mono ?_);(case side1=>repeat(first|exact(Kd.C_below ag.out (hbA HB.out))|(with_reducible refine Kd.C_alloc ?_ _)|(with_reducible refine Kd.C_drewN ?_ _)|(with_reducible refine Kd.C_drew ?_)));(case side2=>exact af.out);rintro e b3 ⟨rfl,hb⟩;refine⟨_,rfl,?_⟩;replace D:=bkB D hb;replace HB:=hbB HB hb;(try clear hb)))
      go_ret2
      exact⟨rfE,hbA HB.out⟩
     replace ak:=Bool.eq_false_iff.mpr ak;subst ak;rw[if_neg nofT]at H
     obtain⟨⟨aw,ax⟩,bx,H⟩:=bindO H
     (try dsimp only at H)
     have H':=aK H;clear H
     go_wp2_with (first|((with_reducible refine gC 18 rfl ?_);refine cG (some 21) Tryd.func18 #[.int .u64 I,.int .i64 a1] ?_;(with_reducible refine(recoupref06_Has.calls I a1 false _ A8.out).mono ?_);rintro e w' ⟨rfl,⟨nd,rfl⟩⟩;refine⟨_,rfl,?_⟩;obtain⟨a6,a7,a8,bl,bm,bn⟩:=cell3 D)|((with_reducible refine gC 40 rfl ?_);refine cG (some 30) Tryd.func40 #[.agg #[.int .i64 G,.int .i64 L,.slice X J.length Y],.int .i64 a1,.int .u64 I] ?_;(with_reducible refine(recoupref19_repairs.calls k2 G L _ _ J a1 I false _ ?side1 ?side2 ay.out).mono ?_);(case side1=>repeat(first|exact(Kd.C_below ag.out (hbA HB.out))|(with_reducible refine Kd.C_alloc ?_ _)|(with_reducible refine Kd.C_drewN ?_ _)|(with_reducible refine Kd.C_drew ?_)));(case side2=>exact af.out);rintro e b4 ⟨rfl,hb⟩;refine⟨_,rfl,?_⟩;replace D:=bkB D hb;replace HB:=hbB HB hb;(try clear hb);obtain⟨a9,ba,bb,bo,bp,bq⟩:=cell3 D)|((with_reducible refine gC 72 rfl ?_);refine cG (some 36) Tryd.func72 #[.int .i64 G,.int .u64 I] ?_;(with_reducible refine(recoupref06_Next.calls k2 G I aw ax _ bx.out).mono ?_);rintro e b5 ⟨rfl,hb⟩;refine⟨_,rfl,?_⟩;replace D:=bkB D hb;replace HB:=hbB HB hb;(try clear hb)))
     go_roundg k2
     case measure=>have:=ac.out;have:=ae.out;omega
     case rel=>exact⟨(wrap64 (O+1)),(aw),(ax),rsE,rsE,rsE,H',⟨by have:=ac.out;have:=ae.out;omega⟩,⟨bkA D.out⟩,⟨hbA HB.out⟩⟩
mutual
def recoupref03_Transpose.l0:Nat->Int->Int->Int->List Int->Int->Int->List Int->Option (Int×Int×List Int×Int)
 |0,_,_,_,_,_,_,_=>none
 |k+1,x5,L,D,O,G,I,J=>if x5<D then(recoupref03_Transpose.l1 k x5 0 L D O G I J)else(some (G,I,J,0))
def recoupref03_Transpose.l1:Nat->Int->Int->Int->Int->List Int->Int->Int->List Int->Option (Int×Int×List Int×Int)
 |0,_,_,_,_,_,_,_,_=>none
 |k+1,x5,x6,D,G,I,L,O,J=>if x6<D then((recoupref03_At.f D G I x6 x5).bind fun U=>(if J.length<140737488355328 then(recoupref03_Transpose.l1 k x5 (wrap64 (x6+1)) D G I L O (J++ [U]))else(none)))else(recoupref03_Transpose.l0 k (wrap64 (x5+1)) D G I L O J)
end
def recoupref03_Transpose.f(k:Nat)(D:Int)(G:Int)(I:List Int):Option (Int×Int×List Int×Int):=(recoupref03_Right.f D G I).bind fun J=>(if J=true then(recoupref03_Transpose.l0 k 0 D G I G D ([]:List Int))else(some (0,0,([]:List Int),3)))
def recoupref03_Transpose.T10:Bool×List (List Nat×List Nat):=(true,[([],[]),([0],[0]),([],[]),([],[]),([],[]),([2,3,4],[2,3,4]),([5],[5]),([1,6,5],[1,6]),([0,1,2,3,4,5,6,7],[]),([8,7,7,0,1,2,3,4,5,6,7],[7,8])])
def recoupref03_Transpose.B10:List Nat:= [0,1,0,0,0,28,60,127,255,511]
theorem recoupref03_Transpose.tab10:rtab .any (opsOf Tryd.f19 10)=recoupref03_Transpose.T10:=by kernel_rfl
theorem recoupref03_Transpose.bits10:waitsOk recoupref03_Transpose.T10.2 recoupref03_Transpose.B10=true:=by kernel_rfl
theorem recoupref03_Transpose.calls(k:Nat)(L:Int)(J:Int)(af:Option Addr)(ag:Nat)(U:List Int)(r1:Int)(r2:Int)(r3:List Int)(r4:Int)(w:World)(bl:Kd.C (Kd.int .u8) w af U.length U)(be:U.length<=ag)(h:recoupref03_Transpose.f k L J U=some (r1,r2,r3,r4)):
 Calls Tryd.prog 19 #[.agg #[.int .i64 L,.int .i64 J,.slice af U.length ag]] w fun e w'=> ∃v2_:Value,e= .returned (.tuple #[.agg #[.int .i64 r1,.int .i64 r2,v2_],.int .i64 r4])/\Kd.R (Kd.int .u8) 5 w' w.heap.size (fun _=>True) v2_ r3/\Below w.heap.size w w':=by
 have ek:=Tryd.underlying24;have aw:=aK bl;have av:=aK be;clear bl be;have HB:=aK (Below.refl w.heap.size w);have H:((recoupref03_Right.f L J U).bind fun bm=>(if bm=true then(recoupref03_Transpose.l0 k 0 L J U J L ([]:List Int))else(some (0,0,([]:List Int),3))))=some (r1,r2,r3,r4):=h;clear h;obtain⟨bm,A2,H⟩:=bindO H
 (try dsimp only at H)
 by_cases c3:bm=true
 case neg=>
  replace c3:=Bool.eq_false_iff.mpr c3;subst c3;rw[if_neg nofT]at H
  obtain⟨rfl,rfl,rfl,rfl⟩:=zP4 H
  go_enter Tryd.func19,Tryd.ntmps19
  go_wp2_with (first|((with_reducible refine gD 1 rfl ?_);refine bE 1 #[.int .i64 L,.int .i64 J,.slice af U.length ag] 24 ?_;intro al hg et hbox hb;have D:=aK (hbox);have bx:=hbS HB hg;have bv:=hbS HB hg;replace HB:=hbB HB hb;clear hb hbox hg)|((with_reducible refine gD 2 rfl ?_);refine bE 2 #[.int .i64 0,.int .i64 0,.slice none 0 0] 24 ?_;intro ae hg eu hbox hb;have I:=aK (hbox);have bz:=hbS HB hg;have bw:=hbS HB hg;replace HB:=hbB HB hb;have X:=neL D hg;have Y:=neG D hg;replace D:=bkB D hb;clear hb hbox hg;have d3:=X.out;have ef:=Y.out;obtain⟨cj,ck,cl,da,db,dc⟩:=cell3 D)|((with_reducible refine gC 45 rfl ?_);refine cG (some 8) Tryd.func45 #[.agg #[.int .i64 L,.int .i64 J,.slice af U.length ag]] ?_;(with_reducible refine(recoupref03_Right.calls L J _ _ U false _ ?side1 ?side2 A2.out).mono ?_);(case side1=>exact kcB aw HB);(case side2=>exact av.out);rintro e ev ⟨rfl,hb⟩;refine⟨_,rfl,?_⟩;replace D:=bkB D hb;replace I:=bkB I hb;replace HB:=hbB HB hb;(try clear hb);obtain⟨cm,cn,co,dd,de,df⟩:=cell3 I))
  refine bodyPost_ret (results_ct rfl _ _ ae 24 #[.int .i64 0,.int .i64 0,.slice none 0 0] (0,0) _ rfl zat Tryd.underlying24 rfl zc) rfl ?_;exact⟨_,rfE,nilE,hbA HB.out⟩
 subst c3;rw[if_pos rfl]at H
 have H':=aK H;clear H
 go_enter Tryd.func19,Tryd.ntmps19
 go_wp2_with (first|((with_reducible refine gD 1 rfl ?_);refine bE 1 #[.int .i64 L,.int .i64 J,.slice af U.length ag] 24 ?_;intro al hg w4 hbox hb;have D:=aK (hbox);have bx:=hbS HB hg;have bv:=hbS HB hg;replace HB:=hbB HB hb;clear hb hbox hg)|((with_reducible refine gD 2 rfl ?_);refine bE 2 #[.int .i64 0,.int .i64 0,.slice none 0 0] 24 ?_;intro ae hg w5 hbox hb;have I:=aK (hbox);have bz:=hbS HB hg;have bw:=hbS HB hg;replace HB:=hbB HB hb;have X:=neL D hg;have Y:=neG D hg;replace D:=bkB D hb;clear hb hbox hg;have eh:=X.out;have ei:=Y.out;obtain⟨ay,az,a0,a4,a5,a6⟩:=cell3 D)|((with_reducible refine gC 45 rfl ?_);refine cG (some 8) Tryd.func45 #[.agg #[.int .i64 L,.int .i64 J,.slice af U.length ag]] ?_;(with_reducible refine(recoupref03_Right.calls L J _ _ U true _ ?side1 ?side2 A2.out).mono ?_);(case side1=>exact kcB aw HB);(case side2=>exact av.out);rintro e w8 ⟨rfl,hb⟩;refine⟨_,rfl,?_⟩;replace D:=bkB D hb;replace I:=bkB I hb;replace HB:=hbB HB hb;(try clear hb);obtain⟨a1,a2,a3,a7,a8,a9⟩:=cell3 D)|((with_reducible refine gD 4 rfl ?_);refine bE 4 #[.int .i64 0,.int .i64 0,.slice none 0 0] 24 ?_;intro ah hg ep hbox hb;have G:=aK (hbox);have dm:=hbS HB hg;have dl:=hbS HB hg;replace HB:=hbB HB hb;have O:=neL D hg;have ab:=neG D hg;replace D:=bkB D hb;have Z:=neL I hg;have ak:=neG I hg;replace I:=bkB I hb;clear hb hbox hg;have dr:=ab.out;have d4:=O.out;have dt:=ak.out;have d5:=Z.out;obtain⟨an,ao,ap,aq,ar,au⟩:=cell3 G))
 go_loopg [5] k (fun kq v5 w'=> ∃(ai:Int) (ac:List Int) (u410002:Value),v5= .int .i64 ai/\Aside0 (recoupref03_Transpose.l0 kq ai L J U J L ac=some (r1,r2,r3,r4))/\Aside0 (kq<=k)/\Aside0 (Kd.R (Kd.int .u8) 5 w' w.heap.size (fun _=>True) u410002 ac)/\Aside0 (w'.heap[al]? =some (.cells #[.int .i64 L,.int .i64 J,(.slice af U.length ag)] 24 (0,0)))/\Aside0 (w'.heap[ae]? =some (.cells #[.int .i64 0,.int .i64 0,(.slice none 0 0)] 24 (0,0)))/\Aside0 (w'.heap[ah]? =some (.cells #[.int .i64 J,.int .i64 L,u410002] 24 (0,0)))/\Aside0 (Below w.heap.size w w'))
 case atStart=>exact⟨(0),(([]:List Int)),(.slice none 0 0),rsE,H',⟨Nat.le_refl _⟩,⟨nilE⟩,⟨by refine bkR ?_;refine blk_far ?_ O.out _;refine bkR ?_;refine blk_far ?_ O.out _;refine bkR ?_;refine blk_far ?_ O.out _;refine bkR ?_;exact D.out⟩,⟨by refine bkR ?_;refine blk_far ?_ Z.out _;refine bkR ?_;refine blk_far ?_ Z.out _;refine bkR ?_;refine blk_far ?_ Z.out _;refine bkR ?_;exact I.out⟩,⟨by refine bkR ?_;refine blk_put (cs:= #[.int .i64 J,.int .i64 L,.slice none 0 0]) ?_ 2 _ rfl;refine bkR ?_;refine blk_put (cs:= #[.int .i64 J,.int .i64 0,.slice none 0 0]) ?_ 1 _ rfl;refine bkR ?_;refine blk_put (cs:= #[.int .i64 0,.int .i64 0,.slice none 0 0]) ?_ 0 _ rfl;refine bkR ?_;exact G.out⟩,⟨hbA HB.out⟩⟩
 case round=>
  clear H'
  (try clear c1);(try clear p2);(try clear c3);(try clear c4);(try clear c6);(try clear dn);(try clear dp);(try clear an ao ap aq ar au);(try clear ay az a0 a4 a5 a6);(try clear a1 a2 a3 a7 a8 a9)
  obtain⟨ai,ac,u410002,rfl,HA,bn,HO_410002,D,I,G,HB⟩:=hrel
  cases gk with
  |zero=>exact absurd HA.out (by simp[recoupref03_Transpose.l0])
  |succ k1=>
   have H:=HA.out;clear HA;simp only[recoupref03_Transpose.l0]at H;by_cases ax:ai<J
   case neg=>
    rw[if_neg ax]at H
    have c14b0:decide (ai<J)=false:=decide_eq_false ax;clear ax;obtain⟨rfl,rfl,rfl,rfl⟩:=zP4 H;have d0:=X.out;have ec:=Y.out;have d1:=O.out;have ed:=ab.out;obtain⟨b9,ca,cb,cw,cx,cy⟩:=cell3 D;have d2:=ak.out;have ee:=Z.out;obtain⟨cd,ce,cf,cz,c2,c5⟩:=cell3 G;obtain⟨cg,ch,ci,c7,c8,c9⟩:=cell3 I;obtain⟨br,bt,b2⟩:=R_slice HO_410002.out;subst b2;go_wp2;refine bodyPost_ret (results_ct rfl _ _ ae 24 #[.int .i64 J,.int .i64 L,.slice br ac.length bt] (0,0) _ rfl (by refine bkR ?_;refine blk_put (cs:= #[.int .i64 J,.int .i64 L,.slice none 0 0]) ?_ 2 _ rfl;refine bkR ?_;refine blk_put (cs:= #[.int .i64 J,.int .i64 0,.slice none 0 0]) ?_ 1 _ rfl;refine bkR ?_;refine blk_put (cs:= #[.int .i64 0,.int .i64 0,.slice none 0 0]) ?_ 0 _ rfl;refine bkR ?_;exact I.out) Tryd.underlying24 rfl zc) rfl ?_;exact⟨_,rfE,by(with_reducible repeat(first|apply R_alloc|apply R_drewN|apply R_drew));exact R_mono (R_far (p:=⟨ae,2,none⟩) (R_far (p:=⟨ae,1,none⟩) (R_far (p:=⟨ae,0,none⟩) (R_types HO_410002.out I.out zb) (fun _ hk=>hk.2) (.int .i64 J)) (fun _ hk=>hk.2) (.int .i64 L)) (fun _ hk=>hk.2) (.slice br ac.length bt)) (fun _ hk=>trivial),hbA HB.out⟩
   rw[if_pos ax]at H
   have c14b0:decide (ai<J)=true:=decide_eq_true ax;clear ax;have H':=aK H;clear H;have du:=X.out;have d6:=Y.out;have dv:=O.out;have d7:=ab.out;obtain⟨bf,bg,bh,bi,bj,bk⟩:=cell3 D;go_wp2
   go_loopg [6] k1 (fun kq v6 w'=> ∃(aj:Int) (aa:List Int) (u410002:Value),v6= .int .i64 aj/\Aside0 (recoupref03_Transpose.l1 kq ai aj L J U J L aa=some (r1,r2,r3,r4))/\Aside0 (kq<=k1)/\Aside0 (Kd.R (Kd.int .u8) 5 w' w.heap.size (fun _=>True) u410002 aa)/\Aside0 (w'.heap[al]? =some (.cells #[.int .i64 L,.int .i64 J,(.slice af U.length ag)] 24 (0,0)))/\Aside0 (w'.heap[ae]? =some (.cells #[.int .i64 0,.int .i64 0,(.slice none 0 0)] 24 (0,0)))/\Aside0 (w'.heap[ah]? =some (.cells #[.int .i64 J,.int .i64 L,u410002] 24 (0,0)))/\Aside0 (Below w.heap.size w w'))
   case atStart=>exact⟨(0),(ac),(u410002),rsE,H',⟨Nat.le_refl _⟩,⟨kdA HO_410002.out⟩,⟨bkA D.out⟩,⟨bkA I.out⟩,⟨bkA G.out⟩,⟨hbA HB.out⟩⟩
   case round=>
    clear H'
    (try clear c1);(try clear p2 p2);(try clear c3);(try clear c4);(try clear c6);(try clear dn);(try clear dp);(try clear ax);(try clear c14b0);(try clear em);(try clear en);(try clear an ao ap aq ar au);(try clear bf bg bh bi bj bk);(try clear ay az a0 a4 a5 a6);(try clear a1 a2 a3 a7 a8 a9)
    obtain⟨aj,aa,u410002,rfl,HA,bo,HO_410002,D,I,G,HB⟩:=hrel
    cases gk with
    |zero=>exact absurd HA.out (by simp[recoupref03_Transpose.l1])
    |succ k2=>
     have H:=HA.out;clear HA;simp only[recoupref03_Transpose.l1]at H;by_cases bc:aj<L
     case neg=>
      rw[if_neg bc]at H
      have c18b0:decide (aj<L)=false:=decide_eq_false bc;clear bc;have H':=aK H;clear H;have dy:=X.out;have ea:=Y.out;have dz:=O.out;have eb:=ab.out;obtain⟨b6,b7,b8,ct,cu,cv⟩:=cell3 D;go_wp2
      go_roundg k2
      case measure=>have:=bn.out;have:=bo.out;omega
      case rel=>exact⟨(wrap64 (ai+1)),(aa),(u410002),rsE,H',⟨by have:=bn.out;have:=bo.out;omega⟩,⟨kdA HO_410002.out⟩,⟨bkA D.out⟩,⟨bkA I.out⟩,⟨bkA G.out⟩,⟨hbA HB.out⟩⟩
     rw[if_pos bc]at H
     have c18b0:decide (aj<L)=true:=decide_eq_true bc;clear bc;obtain⟨ba,dk,H⟩:=bindO H
     (try dsimp only at H)
     by_cases bp:aa.length<140737488355328
     case neg=>rw[if_neg bp]at H;exact absurd H zd
     rw[if_pos bp]at H
     have b0:=aK bp;clear bp;obtain⟨bb,am⟩: ∃y_:List Int,y_=(aa++ [ba]):=⟨_,rfl⟩
     replace H:(recoupref03_Transpose.l1 k2 ai (wrap64 (aj+1)) L J U J L bb)=some (r1,r2,r3,r4):=zH am H
     have b1:=aK am;clear am;have H':=aK H;clear H;have dw:=X.out;have d8:=Y.out;have dx:=O.out;have d9:=ab.out;obtain⟨b3,b4,b5,cp,cq,cr⟩:=cell3 D
     try go_wp2
     replace HO_410002:=aK (R_drew HO_410002.out);replace D:=aK (blk_drew D.out);replace I:=aK (blk_drew I.out);replace G:=aK (blk_drew G.out);replace HB:=aK (below_drew1 HB.out);refine start_ (n:=10) (S:=fun w'=>w'.cell? ⟨ah,0,none⟩=some (.int .i64 J)/\w'.cell? ⟨ah,1,none⟩=some (.int .i64 L)/\w'.cell? ⟨ah,2,none⟩=some (u410002)/\w'.cell? ⟨al,0,none⟩=some (.int .i64 L)/\w'.cell? ⟨al,1,none⟩=some (.int .i64 J)/\w'.cell? ⟨al,2,none⟩=some (.slice af U.length ag)) (ds:= [9]) (.replicate 10 false) zc rfl rfl (z3k G (z3c D)) (fun hHeld=>?_);refine with_tabW recoupref03_Transpose.tab10 recoupref03_Transpose.bits10 (fun HT_ HW_=>?_);generalize wr.drew=er at HO_410002 D I G HB hHeld⊢;refine pu 0 (some 28) (mB 10 1) HT_ ?_;refine pu 3 (some 31) (mB 10 9) HT_ ?_;refine pu 4 (some 32) (mB 10 25) HT_ ?_;refine tk6 1 (some 29) (mB 10 27) HT_ HW_ hHeld ?_;refine tk6 2 (some 30) (mB 10 31) HT_ HW_ hHeld ?_;refine zoh 5 (some 33) (mB 10 63) HT_ fun K hK=>?_;refine goes_ Tryd.func49 zc rfl #[.agg #[.int .i64 L,.int .i64 J,.slice af U.length ag],.int .i64 aj,.int .i64 ai] ze rfl rfl (by(try simp only[List.map_toArray,List.map_cons,List.map_nil]);first|done|rfl|(simp only[List.length_drop,List.length_take];rfl)) ?_;with_reducible refine(recoupref03_At.calls L J _ _ U aj ai ba _ ?side1 ?side2 dk.out).mono ?_
     (case side1=>exact kcB aw HB)
     (case side2=>exact av.out)
     rintro e es ⟨rfl,hb⟩;refine⟨_,rfl,?_⟩;replace HO_410002:=kdB HO_410002 hb;replace D:=bkB D hb;replace I:=bkB I hb;replace G:=bkB G hb;replace HB:=hbB HB hb
     (try clear hb)
     (try clear eo)
     (try clear hk)
     (try clear hi)
     refine hK.out _ _ (z3k G (z3c D)) (fun hHeld=>?_);clear hK K;refine znm (some 33) ?_;refine zoh 6 (some 34) (mB 10 127) HT_ fun K hK=>?_;refine value_ (w1:=?_) (v:=?_) ze rfl ?_ ?_;rotate_left 2
     ·go_simp;constructor
      ·rfl
      ·rfl
     refine hK.out _ _ ⟨(blk_cell (blk_alloc G.out _) 0).trans rfl,(blk_cell (blk_alloc G.out _) 1).trans rfl,(blk_cell (blk_alloc G.out _) 2).trans rfl,(blk_cell (blk_alloc D.out _) 0).trans rfl,(blk_cell (blk_alloc D.out _) 1).trans rfl,(blk_cell (blk_alloc D.out _) 2).trans rfl⟩ (fun hHeld=>?_);clear hK K;refine znm (some 34) ?_;refine zoh 7 (some 35) (mB 10 255) HT_ fun K hK=>?_;refine Kd.R_append_step (Kd.int .u8) (w0:=w) w.heap.size ze (.tmp 29) (.tmp 34) 22 5 (.int .u8 0) 1 rfl Tryd.underlying22 info5 rfl zb za u410002 aa ba [.int .u8 ba] (fun _=>True) (fun _=>False) rfl rfl ?aP (fun _ hk=>hk.elim) ?aF ?aO ?aB ?aS ?aL ?_
     (case aP=>exact rfl)
     (case aB=>exact(hbA HB.out))
     (case aF=>exact(fun _ _=>trivial))
     (case aO=>exact(kdA HO_410002.out))
     (case aS=>exact(below_size (hbA HB.out)))
     (case aL=>have:=b0.out;omega)
     intro el eg ho hb hg hat;rw[<-b1.out]at ho
     have n0_:=aK (blk_grown (g:=al) (o:= .cells #[.int .i64 L,.int .i64 J,.slice af U.length ag] 24 (0,0)) (bkA D.out) hg (R_ne HO_410002.out D.out zb));have n1_:=aK (blk_grown (g:=ae) (o:= .cells #[.int .i64 0,.int .i64 0,.slice none 0 0] 24 (0,0)) (bkA I.out) hg (R_ne HO_410002.out I.out zb));have n2_:=aK (blk_grown (g:=ah) (o:= .cells #[.int .i64 J,.int .i64 L,u410002] 24 (0,0)) (bkA G.out) hg (R_ne HO_410002.out G.out zb));have n3_:=aK (hb);have n4_:=aK (ho);clear D;clear I;clear G;clear HB;clear HO_410002;have D:=n0_;have I:=n1_;have G:=n2_;have HB:=n3_;have bd:=n4_;clear n0_ n1_ n2_ n3_ n4_;clear ho hb hg hat;obtain⟨bq,bs,bu⟩:=R_slice bd.out
     (first|subst bu|(injection bu with f1_ f2_ f3_;have f4_:=f1_.symm;have f5_:=f3_.symm;clear f1_ f2_ f3_;subst f4_;subst f5_))
     refine hK.out _ _ (z3k G (z3c D)) (fun hHeld=>?_);clear hK K;refine znm (some 35) ?_;refine pu 8 (some 36) (mB 10 511) HT_ ?_;refine zlh 9 (none) (mB 10 1023) HT_ fun K hK=>?_;have ej:eg.cell? ⟨ah,2,none⟩=some (u410002):=(blk_cell G.out 2).trans rfl;have dq:=blk_frozen G.out 2;have di:=O.out;have dj:=Z.out;have dg:=ab.out;have dh:=ak.out;refine zsk ?_;refine hK.out _ _ ?_;clear hK K;refine done_ (done_of HT_.out zc) ?_
     try go_wp2
     go_roundg k2
     case measure=>have:=bn.out;have:=bo.out;omega
     case rel=>exact⟨(wrap64 (aj+1)),(bb),(.slice bq bb.length bs),rsE,H',⟨by have:=bn.out;have:=bo.out;omega⟩,⟨by(with_reducible repeat(first|apply R_alloc|apply R_drewN|apply R_drew));exact R_mono (R_far (p:=⟨ah,2,none⟩) (R_types bd.out G.out zb) (fun _ hk=>hk.2) (.slice bq bb.length bs)) (fun _ hk=>trivial)⟩,⟨by refine bkR ?_;refine blk_far ?_ O.out _;refine bkR ?_;exact D.out⟩,⟨by refine bkR ?_;refine blk_far ?_ Z.out _;refine bkR ?_;exact I.out⟩,⟨by refine bkR ?_;refine blk_put (cs:= #[.int .i64 J,.int .i64 L,u410002]) ?_ 2 _ rfl;refine bkR ?_;exact G.out⟩,⟨hbA HB.out⟩⟩
def recoupref04_First.l0:Nat->List Int->Int->Int->Int->Int->List Int->Option (List Int×Int)
 |0,_,_,_,_,_,_=>none
 |k+1,x4,x5,x6,I,D,G=>if x6<I then(if 0<=(wrap64 ((wrap64 (x6+1))*D))then(if(wrap64 ((wrap64 (x6+1))*D))<=(G.length:Int)then((recoupref04_Rank.f k (wrap64 (x6+1)) D (G.take ((wrap64 ((wrap64 (x6+1))*D)):Int).toNat)).bind fun J=>(if J.1>x5 then(if x4.length<17592186044416 then(recoupref04_First.l0 k (x4++ [x6]) J.1 (wrap64 (x6+1)) I D G)else(none))else(recoupref04_First.l0 k x4 x5 (wrap64 (x6+1)) I D G)))else(none))else(none))else(some (x4,0))
def recoupref04_First.f(k:Nat)(D:Int)(G:Int)(I:List Int):Option (List Int×Int):=(recoupref03_Right.f D G I).bind fun J=>(if J=true then(recoupref04_First.l0 k ([]:List Int) 0 0 D G I)else(some (([]:List Int),3)))
def recoupref04_First.T8:Bool×List (List Nat×List Nat):=(true,[([],[]),([0],[0]),([],[]),([2],[2]),([],[]),([4],[4]),([],[]),([6],[6]),([],[]),([8],[8]),([7,9],[7,9]),([5,10],[5,10]),([1,3,11],[1,3,11]),([12],[12]),([13],[13]),([14],[14]),([14],[14]),([15,13,0,1,2,3,4,5,6,7,8,9,10,11,12,13,14,15],[15]),([16,17,0,1,2,3,4,5,6,7,8,9,10,11,12,13,14,15,16,17],[16])])
def recoupref04_First.B8:List Nat:= [0,1,0,4,0,16,0,64,0,256,960,2032,4095,8191,16383,32767,32767,65535,262143]
theorem recoupref04_First.tab8:rtab .any (opsOf Tryd.f73 8)=recoupref04_First.T8:=by kernel_rfl
theorem recoupref04_First.bits8:waitsOk recoupref04_First.T8.2 recoupref04_First.B8=true:=by kernel_rfl
theorem recoupref04_First.calls(k:Nat)(L:Int)(I:Int)(O:Option Addr)(U:Nat)(G:List Int)(r1:List Int)(r2:Int)(w:World)(ap:Kd.C (Kd.int .u8) w O G.length G)(am:G.length<=U)(h:recoupref04_First.f k L I G=some (r1,r2)):
 Calls Tryd.prog 73 #[.agg #[.int .i64 L,.int .i64 I,.slice O G.length U]] w fun e w'=> ∃v0_:Value,e= .returned (.tuple #[v0_,.int .i64 r2])/\Kd.R (Kd.int .i64) 3 w' w.heap.size (fun _=>True) v0_ r1/\Below w.heap.size w w':=by
 have b7:=Tryd.underlying24;have ag:=aK ap;have af:=aK am;clear ap am;have HB:=aK (Below.refl w.heap.size w);have H:((recoupref03_Right.f L I G).bind fun au=>(if au=true then(recoupref04_First.l0 k ([]:List Int) 0 0 L I G)else(some (([]:List Int),3))))=some (r1,r2):=h;clear h;obtain⟨au,A2,H⟩:=bindO H
 (try dsimp only at H)
 by_cases c3:au=true
 case neg=>
  replace c3:=Bool.eq_false_iff.mpr c3;subst c3;rw[if_neg nofT]at H
  obtain⟨rfl,rfl⟩:=zP2 H
  go_enter Tryd.func73,Tryd.ntmps73
  go_wp2_with (first|((with_reducible refine gD 1 rfl ?_);refine bE 1 #[.int .i64 L,.int .i64 I,.slice O G.length U] 24 ?_;intro Y hg ch hbox hb;have D:=aK (hbox);have ba:=hbS HB hg;have a9:=hbS HB hg;replace HB:=hbB HB hb;clear hb hbox hg;obtain⟨bo,bp,bq,b1,b2,b3⟩:=cell3 D)|((with_reducible refine gC 45 rfl ?_);refine cG (some 10) Tryd.func45 #[.agg #[.int .i64 L,.int .i64 I,.slice O G.length U]] ?_;(with_reducible refine(recoupref03_Right.calls L I _ _ G false _ ?side1 ?side2 A2.out).mono ?_);(case side1=>exact kcB ag HB);(case side2=>exact af.out);rintro e ci ⟨rfl,hb⟩;refine⟨_,rfl,?_⟩;replace D:=bkB D hb;replace HB:=hbB HB hb;(try clear hb)))
  go_ret2
  exact⟨_,rfE,nilE,hbA HB.out⟩
 subst c3;rw[if_pos rfl]at H
 have H':=aK H;clear H
 go_enter Tryd.func73,Tryd.ntmps73
 go_wp2_with (first|((with_reducible refine gD 1 rfl ?_);refine bE 1 #[.int .i64 L,.int .i64 I,.slice O G.length U] 24 ?_;intro Y hg w4 hbox hb;have D:=aK (hbox);have ba:=hbS HB hg;have a9:=hbS HB hg;replace HB:=hbB HB hb;clear hb hbox hg;obtain⟨ax,ay,az,a0,a1,a2⟩:=cell3 D)|((with_reducible refine gC 45 rfl ?_);refine cG (some 10) Tryd.func45 #[.agg #[.int .i64 L,.int .i64 I,.slice O G.length U]] ?_;(with_reducible refine(recoupref03_Right.calls L I _ _ G true _ ?side1 ?side2 A2.out).mono ?_);(case side1=>exact kcB ag HB);(case side2=>exact af.out);rintro e w6 ⟨rfl,hb⟩;refine⟨_,rfl,?_⟩;replace D:=bkB D hb;replace HB:=hbB HB hb;(try clear hb)))
 go_loopg [4,5,6] k (fun kq v4 v5 v6 w'=> ∃(Z:List Int) (aa:Int) (J:Int),v5= .int .i64 aa/\v6= .int .i64 J/\Aside0 (recoupref04_First.l0 kq Z aa J L I G=some (r1,r2))/\Aside0 (kq<=k)/\Aside0 (Kd.R (Kd.int .i64) 3 w' w.heap.size (fun _=>True) v4 Z)/\Aside0 (w'.heap[Y]? =some (.cells #[.int .i64 L,.int .i64 I,(.slice O G.length U)] 24 (0,0)))/\Aside0 (Below w.heap.size w w'))
 case atStart=>exact⟨(([]:List Int)),(0),(0),rsE,rsE,H',⟨Nat.le_refl _⟩,⟨nilE⟩,⟨bkA D.out⟩,⟨hbA HB.out⟩⟩
 case round=>
  clear H'
  (try clear p2);(try clear c3);(try clear c4);(try clear ax ay az a0 a1 a2)
  obtain⟨Z,aa,J,rfl,rfl,HA,av,HO_4,D,HB⟩:=hrel
  cases gk with
  |zero=>exact absurd HA.out (by simp[recoupref04_First.l0])
  |succ k1=>
   have H:=HA.out;clear HA;simp only[recoupref04_First.l0]at H;by_cases c7:J<L
   case neg=>
    rw[if_neg c7]at H
    have c7b0:decide (J<L)=false:=decide_eq_false c7;clear c7;obtain⟨rfl,rfl⟩:=zP2 H;obtain⟨bl,bm,bn,bx,bz,b0⟩:=cell3 D;go_wp2
    go_ret2
    exact⟨_,rfE,by(with_reducible repeat(first|apply R_alloc|apply R_drewN|apply R_drew));exact HO_4.out,hbA HB.out⟩
   rw[if_pos c7]at H
   have c7b0:decide (J<L)=true:=decide_eq_true c7;clear c7;obtain⟨X,ah⟩: ∃j_:Int,(wrap64 ((wrap64 (J+1))*I))=j_:=⟨_,rfl⟩
   replace H:(if 0<=(X)then(if(X)<=(G.length:Int)then((recoupref04_Rank.f k1 (wrap64 (J+1)) I (G.take ((X):Int).toNat)).bind fun ak=>(if ak.1>aa then(if Z.length<17592186044416 then(recoupref04_First.l0 k1 (Z++ [J]) ak.1 (wrap64 (J+1)) L I G)else(none))else(recoupref04_First.l0 k1 Z aa (wrap64 (J+1)) L I G)))else(none))else(none))=some (r1,r2):=by first|(rw[ah]at H;exact H)|(simp only[ah]at H⊢;exact H)
   have hji8w:(IntKind.i64.wrap ((wrap64 (J+1))*I))=X:=(i64_w _).trans ah;by_cases c9:0<=(X)
   case neg=>rw[if_neg c9]at H;exact absurd H zd
   rw[if_pos c9]at H
   have c9b0:=eq_true c9;have c9b1:decide (0<=(X))=true:=decide_eq_true c9;clear c9;by_cases al:(X)<=(G.length:Int)
   case neg=>rw[if_neg al]at H;exact absurd H zd
   rw[if_pos al]at H
   have c10b0:=eq_true al;have c10b1:decide ((X)<=(G.length:Int))=true:=decide_eq_true al;clear al;obtain⟨⟨ae,a7⟩,be,H⟩:=bindO H
   (try dsimp only at H)
   by_cases aj:ae>aa
   case neg=>
    rw[if_neg aj]at H
    have c12b0:decide (aa<ae)=false:=decide_eq_false aj;clear aj;have H':=aK H;clear H;obtain⟨bi,bj,bk,bu,bv,bw⟩:=cell3 D
    try go_wp2
    replace HO_4:=aK (R_drew HO_4.out);replace D:=aK (blk_drew D.out);replace HB:=aK (below_drew1 HB.out);obtain⟨b9,ao,_,ar,_⟩:=info_parts info5;obtain⟨b5,a4,a6⟩:=print_take_of (P:=Tryd.prog) (Value.int .u8) 0 22 5 .i64 Tryd.underlying22 ao ar O U G (X) (of_decide_eq_true asE) (of_decide_eq_true asE) af.out;have ab:=aK (Kd.C_of_reads (h1:=fun _=>rfl) (a4 _ (Kd.reads_of_C ag.out)));have ai:=aK a6;clear a4 a6 ao ar;refine start_ (n:=19) (S:=fun w'=>w'.cell? ⟨Y,0,none⟩=some (.int .i64 L)/\w'.cell? ⟨Y,1,none⟩=some (.int .i64 I)/\w'.cell? ⟨Y,2,none⟩=some (.slice O G.length U)) (ds:= []) (.replicate 19 false) zc rfl rfl (z3c D) (fun hHeld=>?_);refine with_tabW recoupref04_First.tab8 recoupref04_First.bits8 (fun HT_ HW_=>?_);generalize wr.drew=cf at HO_4 D HB ab hHeld⊢;refine pu 0 (some 19) (mB 19 1) HT_ ?_;refine pu 1 (some 20) (mB 19 3) HT_ ?_;refine pu 2 (some 21) (mB 19 7) HT_ ?_;refine pu 4 (some 23) (mB 19 23) HT_ ?_;refine pu 6 (some 25) (mB 19 87) HT_ ?_;refine pu 7 (some 26) (mB 19 215) HT_ ?_;refine pu 8 (some 27) (mB 19 471) HT_ ?_;refine tk3 3 (some 22) (mB 19 479) HT_ HW_ hHeld ?_;refine tk3 5 (some 24) (mB 19 511) HT_ HW_ hHeld ?_;refine tk3 9 (some 28) (mB 19 1023) HT_ HW_ hHeld ?_;refine pu 10 (some 29) (mB 19 2047) HT_ ?_;refine pu 11 (some 30) (mB 19 4095) HT_ ?_;refine pu 12 (some 31) (mB 19 8191) HT_ ?_;refine zoh 13 (some 32) (mB 19 16383) HT_ fun K hK=>?_;refine goes_ Tryd.func76 zc rfl #[.agg #[.int .i64 (wrap64 (J+1)),.int .i64 I,.slice O (G.take ((X):Int).toNat).length U]] ze rfl rfl (by(try simp only[List.map_toArray,List.map_cons,List.map_nil]);first|done|(rw[show(G.take ((X):Int).toNat).length=(X).toNat from za0]<;>rfl)|(simp only[ah];rfl)|rfl|(simp only[List.length_drop,List.length_take];rfl)) ?_;with_reducible refine(recoupref04_Rank.calls k1 (wrap64 (J+1)) I _ _ (G.take ((X):Int).toNat) ae a7 _ ?side1 ?side2 be.out).mono ?_
    (case side1=>exact kcB ab HB)
    (case side2=>exact ai.out)
    rintro e cg ⟨rfl,hb⟩;refine⟨_,rfl,?_⟩;replace HO_4:=kdB HO_4 hb;replace D:=bkB D hb;replace HB:=hbB HB hb
    (try clear hb)
    (try clear b6)
    (try clear hk)
    (try clear hi)
    refine hK.out _ _ (z3c D) (fun hHeld=>?_);clear hK K;refine znm (some 32) ?_;refine pu 14 (some 18) (mB 19 32767) HT_ ?_;refine pu 15 (some 33) (mB 19 65535) HT_ ?_;refine pu 16 (some 34) (mB 19 131071) HT_ ?_;refine pu 17 (some 7) (mB 19 262143) HT_ ?_;refine pu 18 (some 8) (mB 19 524287) HT_ ?_;refine done_ (done_of HT_.out zc) ?_
    try go_wp2
    go_roundg k1
    case measure=>have:=av.out;omega
    case rel=>exact⟨(Z),(aa),(wrap64 (J+1)),rsE,rsE,H',⟨by have:=av.out;omega⟩,⟨kdA HO_4.out⟩,⟨bkA D.out⟩,⟨hbA HB.out⟩⟩
   rw[if_pos aj]at H
   have c12b0:decide (aa<ae)=true:=decide_eq_true aj;clear aj;by_cases aw:Z.length<17592186044416
   case neg=>rw[if_neg aw]at H;exact absurd H zd
   rw[if_pos aw]at H
   have bc:=aK aw;clear aw;obtain⟨a8,ac⟩: ∃y_:List Int,y_=(Z++ [J]):=⟨_,rfl⟩
   replace H:(recoupref04_First.l0 k1 a8 ae (wrap64 (J+1)) L I G)=some (r1,r2):=zH ac H
   have bd:=aK ac;clear ac;have H':=aK H;clear H;obtain⟨bf,bg,bh,br,bs,bt⟩:=cell3 D
   try go_wp2
   replace HO_4:=aK (R_drew HO_4.out);replace D:=aK (blk_drew D.out);replace HB:=aK (below_drew1 HB.out);obtain⟨b8,an,_,aq,_⟩:=info_parts info5;obtain⟨b4,a3,a5⟩:=print_take_of (P:=Tryd.prog) (Value.int .u8) 0 22 5 .i64 Tryd.underlying22 an aq O U G (X) (of_decide_eq_true asE) (of_decide_eq_true asE) af.out;have ab:=aK (Kd.C_of_reads (h1:=fun _=>rfl) (a3 _ (Kd.reads_of_C ag.out)));have ai:=aK a5;clear a3 a5 an aq;refine start_ (n:=19) (S:=fun w'=>w'.cell? ⟨Y,0,none⟩=some (.int .i64 L)/\w'.cell? ⟨Y,1,none⟩=some (.int .i64 I)/\w'.cell? ⟨Y,2,none⟩=some (.slice O G.length U)) (ds:= []) (.replicate 19 false) zc rfl rfl (z3c D) (fun hHeld=>?_);refine with_tabW recoupref04_First.tab8 recoupref04_First.bits8 (fun HT_ HW_=>?_);generalize wr.drew=cb at HO_4 D HB ab hHeld⊢;refine pu 0 (some 19) (mB 19 1) HT_ ?_;refine pu 1 (some 20) (mB 19 3) HT_ ?_;refine pu 2 (some 21) (mB 19 7) HT_ ?_;refine pu 4 (some 23) (mB 19 23) HT_ ?_;refine pu 6 (some 25) (mB 19 87) HT_ ?_;refine pu 7 (some 26) (mB 19 215) HT_ ?_;refine pu 8 (some 27) (mB 19 471) HT_ ?_;refine tk3 3 (some 22) (mB 19 479) HT_ HW_ hHeld ?_;refine tk3 5 (some 24) (mB 19 511) HT_ HW_ hHeld ?_;refine tk3 9 (some 28) (mB 19 1023) HT_ HW_ hHeld ?_;refine pu 10 (some 29) (mB 19 2047) HT_ ?_;refine pu 11 (some 30) (mB 19 4095) HT_ ?_;refine pu 12 (some 31) (mB 19 8191) HT_ ?_;refine zoh 13 (some 32) (mB 19 16383) HT_ fun K hK=>?_;refine goes_ Tryd.func76 zc rfl #[.agg #[.int .i64 (wrap64 (J+1)),.int .i64 I,.slice O (G.take ((X):Int).toNat).length U]] ze rfl rfl (by(try simp only[List.map_toArray,List.map_cons,List.map_nil]);first|done|(rw[show(G.take ((X):Int).toNat).length=(X).toNat from za0]<;>rfl)|(simp only[ah];rfl)|rfl|(simp only[List.length_drop,List.length_take];rfl)) ?_;with_reducible refine(recoupref04_Rank.calls k1 (wrap64 (J+1)) I _ _ (G.take ((X):Int).toNat) ae a7 _ ?side1 ?side2 be.out).mono ?_
   (case side1=>exact kcB ab HB)
   (case side2=>exact ai.out)
   rintro e cd ⟨rfl,hb⟩;refine⟨_,rfl,?_⟩;replace HO_4:=kdB HO_4 hb;replace D:=bkB D hb;replace HB:=hbB HB hb
   (try clear hb)
   (try clear b6)
   (try clear hk)
   (try clear hi)
   refine hK.out _ _ (z3c D) (fun hHeld=>?_);clear hK K;refine znm (some 32) ?_;refine pu 14 (some 18) (mB 19 32767) HT_ ?_;refine pu 15 (some 33) (mB 19 65535) HT_ ?_;refine pu 16 (some 34) (mB 19 131071) HT_ ?_;refine pu 17 (some 7) (mB 19 262143) HT_ ?_;refine pu 18 (some 8) (mB 19 524287) HT_ ?_;refine done_ (done_of HT_.out zc) ?_
   try go_wp2_with (first|((with_reducible refine gate_builtin (b:= .append) (xs:= #[.tmp 38,.tmp 40]) rfl ?_);at_builtin;refine Kd.R_append (Kd.int .i64) (w0:=w) w.heap.size rfl (.tmp 38) (.tmp 40) 56 3 (.int .i64 0) 8 rfl Tryd.underlying56 info3 rfl zb za u4 Z J [.int .i64 J] (fun _=>True) (fun _=>False) rfl rfl ?aP (fun _ hk=>hk.elim) ?aF ?aO ?aB ?aS ?aL ?_;(case aP=>exact rfl);(case aB=>exact(hbA HB.out));(case aF=>exact(fun _ _=>trivial));(case aO=>exact(kdA HO_4.out));(case aS=>exact(below_size (hbA HB.out)));(case aL=>have:=bc.out;omega);intro ca ce ho hb hg hat;rw[<-bd.out]at ho;have n0_:=aK (blk_grown (g:=Y) (o:= .cells #[.int .i64 L,.int .i64 I,.slice O G.length U] 24 (0,0)) (bkA D.out) hg (R_ne HO_4.out D.out zb));have n1_:=aK (hb);have n2_:=aK (ho);clear D;clear HB;clear HO_4;have D:=n0_;have HB:=n1_;have bb:=n2_;clear n0_ n1_ n2_;clear ho hb hg hat))
   go_roundg k1
   case measure=>have:=av.out;omega
   case rel=>exact⟨(a8),(ae),(wrap64 (J+1)),rsE,rsE,H',⟨by have:=av.out;omega⟩,⟨kdA bb.out⟩,⟨bkA D.out⟩,⟨hbA HB.out⟩⟩
theorem kd_block{w:World}{e base:Nat}{ok:Nat->Prop}{g n cap:Nat}{xs:List Int}{k:IntKind}(h:Kd.R (Kd.int k) e w base ok (.slice (some ⟨g,0,none⟩) n cap) xs): ∃cells,w.heap[g]? =some (.cells cells e (0,0)):=by
 obtain⟨inner,ho⟩:=Kd.R_own h;rcases ho.2 with⟨h',_⟩|⟨g',cap',cur,h',_,hh,_⟩
 ·cases h'
 ·have:g=g':=by injection h' with h';injection h' with h';injection h' with h'
  subst this;exact⟨_,hh⟩
mutual
def recoupref04_wide.l0:Nat->List Int->Int->Int->Int->List Int->Option (Int×Int×List Int×List Int)
 |0,_,_,_,_,_=>none
 |k+1,x4,x5,G,D,I=>if x5<D then(recoupref04_wide.l1 k x4 x5 (x4.length:Int) (x4.length:Int) G D I)else(some (G,D,I,x4))
def recoupref04_wide.l1:Nat->List Int->Int->Int->Int->Int->Int->List Int->Option (Int×Int×List Int×List Int)
 |0,_,_,_,_,_,_,_=>none
 |k+1,x4,x5,x6,x7,D,G,I=>if x7<D then((recoupref03_At.f D G I x7 x5).bind fun J=>(if J=0 then(recoupref04_wide.l1 k x4 x5 x6 (wrap64 (x7+1)) D G I)else((recoupref01_Inv.f k J).bind fun L=>(recoupref04_wide.l2 k x4 x5 x6 x7 L.1 0 D G I))))else(recoupref04_wide.l0 k x4 (wrap64 (x5+1)) D G I)
def recoupref04_wide.l2:Nat->List Int->Int->Int->Int->Int->Int->Int->Int->List Int->Option (Int×Int×List Int×List Int)
 |0,_,_,_,_,_,_,_,_,_=>none
 |k+1,x4,x5,x6,x7,x9,J,I,D,G=>if J<D then((recoupref03_At.f I D G x6 J).bind fun L=>((recoupref03_At.f I D G x7 J).bind fun O=>(if 0<=(wrap64 ((wrap64 (x7*D))+J))then(if(wrap64 ((wrap64 (x7*D))+J))<(G.length:Int)then((recoupref01_Mul.f k x9 O).bind fun U=>(if 0<=(wrap64 ((wrap64 (x6*D))+J))then(if(wrap64 ((wrap64 (x6*D))+J))<(G.length:Int)then(recoupref04_wide.l2 k x4 x5 x6 x7 x9 (wrap64 (J+1)) I D ((G.set ((wrap64 ((wrap64 (x7*D))+J)):Int).toNat L).set ((wrap64 ((wrap64 (x6*D))+J)):Int).toNat U))else(none))else(none)))else(none))else(none))))else(recoupref04_wide.l3 k x4 x5 x6 0 I D G)
def recoupref04_wide.l3:Nat->List Int->Int->Int->Int->Int->Int->List Int->Option (Int×Int×List Int×List Int)
 |0,_,_,_,_,_,_,_=>none
 |k+1,x4,x5,x6,J,D,G,I=>if J<D then((recoupref03_At.f D G I J x5).bind fun L=>(recoupref04_wide.l4 k x4 x5 x6 J L 0 D G I))else(if x4.length<17592186044416 then(recoupref04_wide.l0 k (x4++ [x5]) (wrap64 (x5+1)) D G I)else(none))
def recoupref04_wide.l4:Nat->List Int->Int->Int->Int->Int->Int->Int->Int->List Int->Option (Int×Int×List Int×List Int)
 |0,_,_,_,_,_,_,_,_,_=>none
 |k+1,x4,x5,x6,J,O,L,G,D,I=>if L<D then(recoupref04_wide.j5 k x4 x5 x6 J O L (J !=x6) G D I)else(recoupref04_wide.j5 k x4 x5 x6 J O L false G D I)
def recoupref04_wide.j5:Nat->List Int->Int->Int->Int->Int->Int->Bool->Int->Int->List Int->Option (Int×Int×List Int×List Int)
 |0,_,_,_,_,_,_,_,_,_,_=>none
 |k+1,x4,x5,x6,J,X,L,Y,I,D,G=>if Y=true then(if 0<=(wrap64 ((wrap64 (J*D))+L))then(if(wrap64 ((wrap64 (J*D))+L))<(G.length:Int)then((recoupref03_At.f I D G x6 L).bind fun O=>((recoupref01_Mul.f k X O).bind fun U=>(recoupref04_wide.l4 k x4 x5 x6 J X (wrap64 (L+1)) I D (G.set ((wrap64 ((wrap64 (J*D))+L)):Int).toNat (Go.bits .xor .u8 (rd G (wrap64 ((wrap64 (J*D))+L))) U)))))else(none))else(none))else(recoupref04_wide.l3 k x4 x5 x6 (wrap64 (J+1)) I D G)
end
def recoupref04_wide.f(k:Nat)(D:Int)(G:Int)(I:List Int):Option (Int×Int×List Int×List Int):=recoupref04_wide.l0 k ([]:List Int) 0 D G I
def recoupref04_wide.T15:Bool×List (List Nat×List Nat):=(true,[([],[]),([],[]),([],[]),([0,1,2],[0,1,2]),([],[]),([],[]),([],[]),([4,5,6,3],[4,5,6]),([3,7,0,1,2,3],[3]),([7,8,0,1,2,3,4,5,6,7,8],[7])])
def recoupref04_wide.B15:List Nat:= [0,0,0,7,0,0,0,127,255,511]
theorem recoupref04_wide.tab15:rtab .any (opsOf Tryd.f95 15)=recoupref04_wide.T15:=by kernel_rfl
theorem recoupref04_wide.bits15:waitsOk recoupref04_wide.T15.2 recoupref04_wide.B15=true:=by kernel_rfl
def recoupref04_wide.T17:Bool×List (List Nat×List Nat):=(true,[([],[]),([0],[0]),([],[]),([],[]),([3],[3]),([2,4],[2,4]),([],[]),([5,6],[5,6]),([],[]),([],[]),([8,9],[8,9]),([1,7,0,1,2,3,4,5,6,7,8,9,10],[1,7]),([11,10,10,0,1,2,3,4,5,6,7,8,9,10],[10,11])])
def recoupref04_wide.B17:List Nat:= [0,1,0,0,8,28,0,124,0,0,768,2047,4095]
theorem recoupref04_wide.tab17:rtab .any (opsOf Tryd.f95 17)=recoupref04_wide.T17:=by kernel_rfl
theorem recoupref04_wide.bits17:waitsOk recoupref04_wide.T17.2 recoupref04_wide.B17=true:=by kernel_rfl
def recoupref04_wide.T25:Bool×List (List Nat×List Nat):=(true,[([],[]),([0],[0]),([],[]),([],[]),([3],[3]),([2,4],[2,4]),([],[]),([5,6],[5,6]),([1,7],[1,7]),([8],[8]),([],[]),([],[]),([],[]),([],[]),([11,12,13],[11,12,13]),([10,14,14],[10,14]),([9,15],[9,15]),([1,7,0,1,2,3,4,5,6,7,8,9,10,11,12,13,14,15,16],[1,7]),([17,16,15,0,1,2,3,4,5,6,7,8,9,10,11,12,13,14,15,16],[16,17])])
def recoupref04_wide.B25:List Nat:= [0,1,0,0,8,28,0,124,255,511,0,0,0,0,14336,31744,65535,131071,262143]
theorem recoupref04_wide.tab25:rtab .any (opsOf Tryd.f95 25)=recoupref04_wide.T25:=by kernel_rfl
theorem recoupref04_wide.bits25:waitsOk recoupref04_wide.T25.2 recoupref04_wide.B25=true:=by kernel_rfl
theorem recoupref04_wide.calls(k:Nat)(O:Int)(J:Int)(P0_2_:Nat->Prop)(u9000_:Value)(cb:List Int)(r1:Int)(r2:Int)(r3:List Int)(r4:List Int)(w0 w:World)(hB:Below w0.heap.size w0 w)(e8:Kd.R (Kd.int .u8) 5 w w0.heap.size P0_2_ u9000_ cb)(h:recoupref04_wide.f k O J cb=some (r1,r2,r3,r4)):
 Calls Tryd.prog 95 #[.agg #[.int .i64 O,.int .i64 J,u9000_]] w fun e w'=> ∃v2_ v3_:Value,e= .returned (.tuple #[.agg #[.int .i64 r1,.int .i64 r2,v2_],v3_])/\Kd.R (Kd.int .u8) 5 w' w0.heap.size (fun k_=>(P0_2_ k_∨w.heap.size<=k_)) v2_ r3/\Kd.R (Kd.int .i64) 3 w' w0.heap.size (fun k_=>(P0_2_ k_∨w.heap.size<=k_)) v3_ r4/\Below w0.heap.size w0 w'/\Kept w w' (fun k_=>P0_2_ k_):=by
 have i8:=Tryd.underlying24;have bg:=aK (show Kd.R (Kd.int .u8) 5 w w0.heap.size (fun k_=>(P0_2_ k_∨w.heap.size<=k_)) u9000_ cb from R_mono e8 (fun k_ hk=>(.inl hk)));have HK:=aK (Kept.refl w (fun k_=>P0_2_ k_));have jb:=aK hB.size;have HB:=aK hB;clear hB;have H:(recoupref04_wide.l0 k ([]:List Int) 0 O J cb)=some (r1,r2,r3,r4):=h;clear h;have H':=aK H;clear H;obtain⟨fc,fi,g2⟩:=R_slice bg.out;subst g2
 go_enter Tryd.func95,Tryd.ntmps95
 go_wp2_with (first|((with_reducible refine gD 1 rfl ?_);refine bE 1 #[.int .i64 O,.int .i64 J,.slice fc cb.length fi] 24 ?_;intro ag hg w3 hbox hb;replace bg:=kdB bg hb;have D:=aK (hbox);have U:=aK ((by rw[hg];exact(by first|exact HK.out.1|exact(show Kept w _ (fun k_=>P0_2_ k_)from by repeat(first|(with_reducible first|exact HK.out|apply Kept.alloc|apply Kept.drewN|apply Kept.drew)|exact HK.out)).1):w.heap.size<=ag));replace HK:=aK (Kept.below (S:=(fun k_=>P0_2_ k_)) zt hb);have gy:=aK ((by rw[hg];exact(below_size (hbA HB.out)):w0.heap.size<=ag));replace HB:=hbB HB hb;clear hb hbox hg)|((with_reducible refine gD 2 rfl ?_);refine bE 2 #[.int .i64 0,.int .i64 0,.slice none 0 0] 24 ?_;intro aj hg w4 hbox hb;replace bg:=kdB bg hb;have G:=aK (hbox);have Z:=aK ((by rw[hg];exact(by first|exact HK.out.1|exact(show Kept w _ (fun k_=>P0_2_ k_)from by repeat(first|(with_reducible first|exact HK.out|apply Kept.alloc|apply Kept.drewN|apply Kept.drew|refine Kept.setCell ?_ (.inr U.out) _)|exact HK.out)).1):w.heap.size<=aj));replace HK:=aK (Kept.below (S:=(fun k_=>P0_2_ k_)) (by repeat(first|(with_reducible first|exact HK.out|apply Kept.alloc|apply Kept.drewN|apply Kept.drew|refine Kept.setCell ?_ (.inr U.out) _)|exact HK.out)) hb);have gz:=aK ((by rw[hg];exact(below_size (hbA HB.out)):w0.heap.size<=aj));replace HB:=hbB HB hb;have aa:=neL D hg;have ab:=neG D hg;replace D:=bkB D hb;clear hb hbox hg))
 go_loopg [4,5] k (fun kq v4 v5 w'=> ∃(ac:List Int) (ae:Int) (am:List Int) (u423002:Value),v5= .int .i64 ae/\Aside0 (recoupref04_wide.l0 kq ac ae O J am=some (r1,r2,r3,r4))/\Aside0 (kq<=k)/\Aside0 (Kd.R (Kd.int .i64) 3 w' w0.heap.size (fun k_=>(P0_2_ k_∨w.heap.size<=k_)) v4 ac)/\Aside0 (Kd.R (Kd.int .u8) 5 w' w0.heap.size (fun k_=>(P0_2_ k_∨w.heap.size<=k_)) u423002 am)/\Aside0 (w'.heap[ag]? =some (.cells #[.int .i64 O,.int .i64 J,u423002] 24 (0,0)))/\Aside0 (w'.heap[aj]? =some (.cells #[.int .i64 0,.int .i64 0,(.slice none 0 0)] 24 (0,0)))/\Aside0 (Kept w w' (fun k_=>P0_2_ k_))/\Aside0 (Below w0.heap.size w0 w'))
 case atStart=>exact⟨(([]:List Int)),(0),(cb),(.slice fc cb.length fi),rsE,H',⟨Nat.le_refl _⟩,⟨nilE⟩,⟨kdA bg.out⟩,⟨bkA D.out⟩,⟨bkA G.out⟩,⟨by repeat(first|(with_reducible first|exact HK.out|apply Kept.alloc|apply Kept.drewN|apply Kept.drew|refine Kept.setCell ?_ (.inr U.out) _|refine Kept.setCell ?_ (.inr Z.out) _)|exact HK.out)⟩,⟨hbA HB.out⟩⟩
 case round=>
  clear H'
  (try clear p2)
  obtain⟨ac,ae,am,u423002,rfl,HA,ar,HO_4,HO_423002,D,G,HK,HB⟩:=hrel
  cases gk with
  |zero=>exact absurd HA.out (by simp[recoupref04_wide.l0])
  |succ k1=>
   have H:=HA.out;clear HA;simp only[recoupref04_wide.l0]at H;by_cases c5:ae<J
   case neg=>
    rw[if_neg c5]at H
    have c5b0:decide (ae<J)=false:=decide_eq_false c5;clear c5;obtain⟨rfl,rfl,rfl,rfl⟩:=zP4 H;have ie:=aa.out;have ir:=ab.out;obtain⟨fz,f0,f1,ge,gf,gg⟩:=cell3 D;obtain⟨f2,f3,f4,gh,gi,gj⟩:=cell3 G;obtain⟨di,dp,fo⟩:=R_slice HO_423002.out;subst fo;go_wp2;refine bodyPost_ret (results_ct rfl _ _ aj 24 #[.int .i64 O,.int .i64 J,.slice di am.length dp] (0,0) _ rfl (by refine bkR ?_;refine blk_put (cs:= #[.int .i64 O,.int .i64 J,.slice none 0 0]) ?_ 2 _ rfl;refine bkR ?_;refine blk_put (cs:= #[.int .i64 O,.int .i64 0,.slice none 0 0]) ?_ 1 _ rfl;refine bkR ?_;refine blk_put (cs:= #[.int .i64 0,.int .i64 0,.slice none 0 0]) ?_ 0 _ rfl;refine bkR ?_;exact G.out) Tryd.underlying24 rfl zc) rfl ?_;exact⟨_,_,rfE,by(with_reducible repeat(first|apply R_alloc|apply R_drewN|apply R_drew));exact R_mono (R_far (p:=⟨aj,2,none⟩) (R_far (p:=⟨aj,1,none⟩) (R_far (p:=⟨aj,0,none⟩) (R_types HO_423002.out G.out zb) (fun _ hk=>hk.2) (.int .i64 O)) (fun _ hk=>hk.2) (.int .i64 J)) (fun _ hk=>hk.2) (.slice di am.length dp)) (fun _ hk=>hk.1),by(with_reducible repeat(first|apply R_alloc|apply R_drewN|apply R_drew));exact R_mono (R_far (p:=⟨aj,2,none⟩) (R_far (p:=⟨aj,1,none⟩) (R_far (p:=⟨aj,0,none⟩) (R_types HO_4.out G.out zb) (fun _ hk=>hk.2) (.int .i64 O)) (fun _ hk=>hk.2) (.int .i64 J)) (fun _ hk=>hk.2) (.slice di am.length dp)) (fun _ hk=>hk.1),hbA HB.out,by repeat(first|(with_reducible first|exact HK.out|apply Kept.alloc|apply Kept.drewN|apply Kept.drew|refine Kept.setCell ?_ (.inr U.out) _|refine Kept.setCell ?_ (.inr Z.out) _)|exact HK.out)⟩
   rw[if_pos c5]at H
   have c5b0:decide (ae<J)=true:=decide_eq_true c5;clear c5;have H':=aK H;clear H;have i6:=aa.out;have i7:=ab.out;obtain⟨a2,a3,a4,bb,bc,bd⟩:=cell3 D;obtain⟨ja,je,g3⟩:=R_slice HO_4.out;subst g3;go_wp2
   go_loopg [4,7] k1 (fun kq v4 v7 w'=> ∃(ai:List Int) (an:Int) (Y:List Int) (u423002:Value),v7= .int .i64 an/\Aside0 (recoupref04_wide.l1 kq ai ae (ac.length:Int) an O J Y=some (r1,r2,r3,r4))/\Aside0 (kq<=k1)/\Aside0 (Kd.R (Kd.int .i64) 3 w' w0.heap.size (fun k_=>(P0_2_ k_∨w.heap.size<=k_)) v4 ai)/\Aside0 (Kd.R (Kd.int .u8) 5 w' w0.heap.size (fun k_=>(P0_2_ k_∨w.heap.size<=k_)) u423002 Y)/\Aside0 (w'.heap[ag]? =some (.cells #[.int .i64 O,.int .i64 J,u423002] 24 (0,0)))/\Aside0 (w'.heap[aj]? =some (.cells #[.int .i64 0,.int .i64 0,(.slice none 0 0)] 24 (0,0)))/\Aside0 (Kept w w' (fun k_=>P0_2_ k_))/\Aside0 (Below w0.heap.size w0 w'))
   case atStart=>exact⟨(ac),((ac.length:Int)),(am),(u423002),rsE,H',⟨Nat.le_refl _⟩,⟨kdA HO_4.out⟩,⟨kdA HO_423002.out⟩,⟨bkA D.out⟩,⟨bkA G.out⟩,⟨by repeat(first|(with_reducible first|exact HK.out|apply Kept.alloc|apply Kept.drewN|apply Kept.drew|refine Kept.setCell ?_ (.inr U.out) _|refine Kept.setCell ?_ (.inr Z.out) _)|exact HK.out)⟩,⟨hbA HB.out⟩⟩
   case round=>
    clear H'
    (try clear p2 p2);(try clear c5);(try clear c5b0);(try clear c6);(try clear a2 a3 a4 bb bc bd)
    obtain⟨ai,an,Y,u423002,rfl,HA,au,HO_4,HO_423002,D,G,HK,HB⟩:=hrel
    cases gk with
    |zero=>exact absurd HA.out (by simp[recoupref04_wide.l1])
    |succ k2=>
     have H:=HA.out;clear HA;simp only[recoupref04_wide.l1]at H;by_cases c9:an<O
     case neg=>
      rw[if_neg c9]at H
      have c9b0:decide (an<O)=false:=decide_eq_false c9;clear c9;have H':=aK H;clear H;have ic:=aa.out;have iq:=ab.out;obtain⟨fw,fx,fy,ga,gb,gc⟩:=cell3 D;go_wp2
      go_roundg k2
      case measure=>have:=ar.out;have:=au.out;omega
      case rel=>exact⟨(ai),(wrap64 (ae+1)),(Y),(u423002),rsE,H',⟨by have:=ar.out;have:=au.out;omega⟩,⟨kdA HO_4.out⟩,⟨kdA HO_423002.out⟩,⟨bkA D.out⟩,⟨bkA G.out⟩,⟨by repeat(first|(with_reducible first|exact HK.out|apply Kept.alloc|apply Kept.drewN|apply Kept.drew|refine Kept.setCell ?_ (.inr U.out) _|refine Kept.setCell ?_ (.inr Z.out) _)|exact HK.out)⟩,⟨hbA HB.out⟩⟩
     rw[if_pos c9]at H
     have c9b0:decide (an<O)=true:=decide_eq_true c9;clear c9;obtain⟨be,fa,H⟩:=bindO H
     (try dsimp only at H)
     by_cases bk:be=0
     ·rw[if_pos bk]at H
      have c11b0:(be==0)=true:=beq_iff_eq.mpr bk;have c11b1:(be !=0)=false:=bne_eq_false_iff_eq.mpr bk;clear bk;have H':=aK H;clear H;have g4:=aa.out;have ig:=ab.out;obtain⟨aw,ax,ay,a5,a6,a7⟩:=cell3 D;obtain⟨ec,eh,fk⟩:=R_slice HO_423002.out;subst fk
      go_wp2_with (first|((with_reducible refine gC 49 rfl ?_);refine cG (some 35) Tryd.func49 #[.agg #[.int .i64 O,.int .i64 J,.slice ec Y.length eh],.int .i64 an,.int .i64 ae] ?_;(with_reducible refine(recoupref03_At.calls O J _ _ Y an ae be _ ?side1 ?side2 fa.out).mono ?_);(case side1=>exact kcA (R_reads' HO_423002.out).2.2);(case side2=>exact(R_reads' HO_423002.out).2.1);rintro e jf ⟨rfl,hb⟩;refine⟨_,rfl,?_⟩;replace HO_4:=kdB HO_4 hb;replace HO_423002:=kdB HO_423002 hb;replace D:=bkB D hb;replace G:=bkB G hb;replace HK:=aK (Kept.below (S:=(fun k_=>P0_2_ k_)) zo hb);replace HB:=hbB HB hb;(try clear hb)))
      go_roundg k2
      case measure=>have:=ar.out;have:=au.out;omega
      case rel=>exact⟨(ai),(wrap64 (an+1)),(Y),(.slice ec Y.length eh),rsE,H',⟨by have:=ar.out;have:=au.out;omega⟩,⟨kdA HO_4.out⟩,⟨kdA HO_423002.out⟩,⟨bkA D.out⟩,⟨bkA G.out⟩,⟨by repeat(first|(with_reducible first|exact HK.out|apply Kept.alloc|apply Kept.drewN|apply Kept.drew|refine Kept.setCell ?_ (.inr U.out) _|refine Kept.setCell ?_ (.inr Z.out) _)|exact HK.out)⟩,⟨hbA HB.out⟩⟩
     rw[if_neg bk]at H
     have c11b0:(be==0)=false:=beq_eq_false_iff_ne.mpr bk;have c11b1:(be !=0)=true:=bne_iff_ne.mpr bk;obtain⟨⟨aq,gn⟩,gu,H⟩:=bindO H
     (try dsimp only at H)
     have H':=aK H;clear H;have g5:=aa.out;have ii:=ab.out;obtain⟨az,a0,a1,a8,a9,ba⟩:=cell3 D;obtain⟨ed,ei,fl⟩:=R_slice HO_423002.out;subst fl
     go_wp2_with (first|((with_reducible refine gC 49 rfl ?_);refine cG (some 35) Tryd.func49 #[.agg #[.int .i64 O,.int .i64 J,.slice ed Y.length ei],.int .i64 an,.int .i64 ae] ?_;(with_reducible refine(recoupref03_At.calls O J _ _ Y an ae be _ ?side1 ?side2 fa.out).mono ?_);(case side1=>exact kcA (R_reads' HO_423002.out).2.2);(case side2=>exact(R_reads' HO_423002.out).2.1);rintro e jg ⟨rfl,hb⟩;refine⟨_,rfl,?_⟩;replace HO_4:=kdB HO_4 hb;replace HO_423002:=kdB HO_423002 hb;replace D:=bkB D hb;replace G:=bkB G hb;replace HK:=aK (Kept.below (S:=(fun k_=>P0_2_ k_)) zo hb);replace HB:=hbB HB hb;(try clear hb))|((with_reducible refine gC 113 rfl ?_);refine cG (some 40) Tryd.func113 #[.int .u8 be] ?_;(with_reducible refine(recoupref01_Inv.calls k2 be aq gn _ gu.out).mono ?_);rintro e w' ⟨rfl,⟨nd,rfl⟩⟩;refine⟨_,rfl,?_⟩))
     go_loopg [11] k2 (fun kq it w'=> ∃(X:Int) (I:List Int) (u423002:Value),it= .int .i64 X/\Aside0 (recoupref04_wide.l2 kq ai ae (ac.length:Int) an aq X O J I=some (r1,r2,r3,r4))/\Aside0 (kq<=k2)/\Aside0 (Kd.R (Kd.int .i64) 3 w' w0.heap.size (fun k_=>(P0_2_ k_∨w.heap.size<=k_)) u4 ai)/\Aside0 (Kd.R (Kd.int .u8) 5 w' w0.heap.size (fun k_=>(P0_2_ k_∨w.heap.size<=k_)) u423002 I)/\Aside0 (w'.heap[ag]? =some (.cells #[.int .i64 O,.int .i64 J,u423002] 24 (0,0)))/\Aside0 (w'.heap[aj]? =some (.cells #[.int .i64 0,.int .i64 0,(.slice none 0 0)] 24 (0,0)))/\Aside0 (Kept w w' (fun k_=>P0_2_ k_))/\Aside0 (Below w0.heap.size w0 w'))
     case atStart=>exact⟨(0),(Y),(.slice ed Y.length ei),rsE,H',⟨Nat.le_refl _⟩,⟨kdA HO_4.out⟩,⟨kdA HO_423002.out⟩,⟨bkA D.out⟩,⟨bkA G.out⟩,⟨by repeat(first|(with_reducible first|exact HK.out|apply Kept.alloc|apply Kept.drewN|apply Kept.drew|refine Kept.setCell ?_ (.inr U.out) _|refine Kept.setCell ?_ (.inr Z.out) _)|exact HK.out)⟩,⟨hbA HB.out⟩⟩
     case round=>
      clear H'
      (try clear c1);(try clear p2 p2);(try clear c4);(try clear c5);(try clear c5b0);(try clear c6);(try clear p6);(try clear c9);(try clear c9b0);(try clear bk);(try clear c11b0);(try clear c11b1);(try clear e6);(try clear e7);(try clear aw ax ay a5 a6 a7);(try clear az a0 a1 a8 a9 ba);(try clear a2 a3 a4 bb bc bd)
      obtain⟨X,I,u423002,rfl,HA,cd,HO_4,HO_423002,D,G,HK,HB⟩:=hrel
      cases gk with
      |zero=>exact absurd HA.out (by simp[recoupref04_wide.l2])
      |succ k3=>
       have H:=HA.out;clear HA;simp only[recoupref04_wide.l2]at H;by_cases cg:X<J
       ·rw[if_pos cg]at H
        have c21b0:decide (X<J)=true:=decide_eq_true cg;clear cg;obtain⟨cu,ey,H⟩:=bindO H
        (try dsimp only at H)
        obtain⟨cv,ez,H⟩:=bindO H
        (try dsimp only at H)
        obtain⟨ao,b5⟩: ∃j_:Int,(wrap64 ((wrap64 (an*J))+X))=j_:=⟨_,rfl⟩
        replace H:(if 0<=(ao)then(if(ao)<(I.length:Int)then((recoupref01_Mul.f k3 aq cv).bind fun bf=>(if 0<=(wrap64 ((wrap64 ((ac.length:Int)*J))+X))then(if(wrap64 ((wrap64 ((ac.length:Int)*J))+X))<(I.length:Int)then(recoupref04_wide.l2 k3 ai ae (ac.length:Int) an aq (wrap64 (X+1)) O J ((I.set ((ao):Int).toNat cu).set ((wrap64 ((wrap64 ((ac.length:Int)*J))+X)):Int).toNat bf))else(none))else(none)))else(none))else(none))=some (r1,r2,r3,r4):=by first|(rw[b5]at H;exact H)|(simp only[b5]at H⊢;exact H)
        (try rw[b5]at ey)
        (try rw[b5]at ez)
        have hji24w:(IntKind.i64.wrap ((wrap64 (an*J))+X))=ao:=(i64_w _).trans b5;by_cases cy:0<=(ao)
        case neg=>rw[if_neg cy]at H;exact absurd H zd
        rw[if_pos cy]at H
        have c25b0:decide (0<=(ao))=true:=decide_eq_true cy;clear cy;by_cases cz:(ao)<(I.length:Int)
        case neg=>rw[if_neg cz]at H;exact absurd H zd
        rw[if_pos cz]at H
        have c26b0:decide ((ao)<(I.length:Int))=true:=decide_eq_true cz;clear cz;obtain⟨df,b7⟩: ∃y_:List Int,y_=(I.set ((ao):Int).toNat cu):=⟨_,rfl⟩
        replace H:((recoupref01_Mul.f k3 aq cv).bind fun bf=>(if 0<=(wrap64 ((wrap64 ((ac.length:Int)*J))+X))then(if(wrap64 ((wrap64 ((ac.length:Int)*J))+X))<(I.length:Int)then(recoupref04_wide.l2 k3 ai ae (ac.length:Int) an aq (wrap64 (X+1)) O J (df.set ((wrap64 ((wrap64 ((ac.length:Int)*J))+X)):Int).toNat bf))else(none))else(none)))=some (r1,r2,r3,r4):=zH b7 H
        have e2:=aK b7;clear b7;obtain⟨bf,fb,H⟩:=bindO H
        (try dsimp only at H)
        obtain⟨ap,bh⟩: ∃j_:Int,(wrap64 ((wrap64 ((ac.length:Int)*J))+X))=j_:=⟨_,rfl⟩
        replace H:(if 0<=(ap)then(if(ap)<(I.length:Int)then(recoupref04_wide.l2 k3 ai ae (ac.length:Int) an aq (wrap64 (X+1)) O J (df.set ((ap):Int).toNat bf))else(none))else(none))=some (r1,r2,r3,r4):=by first|(rw[bh]at H;exact H)|(simp only[bh]at H⊢;exact H)
        (try rw[bh]at ey)
        (try rw[bh]at ez)
        (try rw[bh]at fb)
        have hji29w:(IntKind.i64.wrap ((wrap64 ((ac.length:Int)*J))+X))=ap:=(i64_w _).trans bh;by_cases c8:0<=(ap)
        case neg=>rw[if_neg c8]at H;exact absurd H zd
        rw[if_pos c8]at H
        have c30b0:decide (0<=(ap))=true:=decide_eq_true c8;clear c8;by_cases da:(ap)<(I.length:Int)
        case neg=>rw[if_neg da]at H;exact absurd H zd
        rw[if_pos da]at H
        have c31b0:decide ((ap)<(I.length:Int))=true:=decide_eq_true da;clear da;obtain⟨ev,b8⟩: ∃y_:List Int,y_=(df.set ((ap):Int).toNat bf):=⟨_,rfl⟩
        replace H:(recoupref04_wide.l2 k3 ai ae (ac.length:Int) an aq (wrap64 (X+1)) O J ev)=some (r1,r2,r3,r4):=zH b8 H
        have e3:=aK b8;clear b8;have H':=aK H;clear H;have g6:=aa.out;have ij:=ab.out;obtain⟨bm,bn,bo,bv,bw,bx⟩:=cell3 D
        try go_wp2
        replace HO_4:=aK (R_drew HO_4.out);replace HO_423002:=aK (R_drew HO_423002.out);replace D:=aK (blk_drew D.out);replace G:=aK (blk_drew G.out);replace HK:=aK (Kept.drew HK.out);replace HB:=aK (below_drew1 HB.out);obtain⟨dh,bl,el⟩:=R_slice HO_423002.out
        (first|subst el|(injection el with f1_ f2_ f3_;have f4_:=f1_.symm;have f5_:=f3_.symm;clear f1_ f2_ f3_;subst f4_;subst f5_))
        refine start_ (n:=10) (S:=fun w'=>w'.cell? ⟨ag,0,none⟩=some (.int .i64 O)/\w'.cell? ⟨ag,1,none⟩=some (.int .i64 J)/\w'.cell? ⟨ag,2,none⟩=some (.slice dh I.length bl)) (ds:= []) (.replicate 10 false) zc rfl rfl (z3c D) (fun hHeld=>?_);refine with_tabW recoupref04_wide.tab15 recoupref04_wide.bits15 (fun HT_ HW_=>?_);generalize wr.drew=jh at HO_4 HO_423002 D G HK HB hHeld⊢;refine pu 1 (some 50) (mB 10 2) HT_ ?_;refine pu 2 (some 51) (mB 10 6) HT_ ?_;refine pu 5 (some 54) (mB 10 38) HT_ ?_;refine pu 6 (some 55) (mB 10 102) HT_ ?_;refine tk3 0 (some 49) (mB 10 103) HT_ HW_ hHeld ?_;refine tk3 4 (some 53) (mB 10 119) HT_ HW_ hHeld ?_;refine zoh 3 (some 52) (mB 10 127) HT_ fun K hK=>?_;refine goes_ Tryd.func49 zc rfl #[.agg #[.int .i64 O,.int .i64 J,.slice dh I.length bl],.int .i64 (ac.length:Int),.int .i64 X] ze rfl rfl (by(try simp only[List.map_toArray,List.map_cons,List.map_nil]);first|done|rfl|(simp only[List.length_drop,List.length_take];rfl)) ?_;with_reducible refine(recoupref03_At.calls O J _ _ I (ac.length:Int) X cu _ ?side1 ?side2 ey.out).mono ?_
        (case side1=>exact kcA (R_reads' HO_423002.out).2.2)
        (case side2=>exact(R_reads' HO_423002.out).2.1)
        rintro e ji ⟨rfl,hb⟩;refine⟨_,rfl,?_⟩;replace HO_4:=kdB HO_4 hb;replace HO_423002:=kdB HO_423002 hb;replace D:=bkB D hb;replace G:=bkB G hb;replace HK:=aK (Kept.below (S:=(fun k_=>P0_2_ k_)) zo hb);replace HB:=hbB HB hb
        (try clear hb)
        (try clear fs)
        (try clear hk)
        (try clear hi)
        refine hK.out _ _ (z3c D) (fun hHeld=>?_);clear hK K;refine znm (some 52) ?_;refine zoh 7 (some 56) (mB 10 255) HT_ fun K hK=>?_;refine goes_ Tryd.func49 zc rfl #[.agg #[.int .i64 O,.int .i64 J,.slice dh I.length bl],.int .i64 an,.int .i64 X] ze rfl rfl (by(try simp only[List.map_toArray,List.map_cons,List.map_nil]);first|done|rfl|(simp only[List.length_drop,List.length_take];rfl)) ?_;with_reducible refine(recoupref03_At.calls O J _ _ I an X cv _ ?side1 ?side2 ez.out).mono ?_
        (case side1=>exact kcA (R_reads' HO_423002.out).2.2)
        (case side2=>exact(R_reads' HO_423002.out).2.1)
        rintro e gp ⟨rfl,hb⟩;refine⟨_,rfl,?_⟩;replace HO_4:=kdB HO_4 hb;replace HO_423002:=kdB HO_423002 hb;replace D:=bkB D hb;replace G:=bkB G hb;replace HK:=aK (Kept.below (S:=(fun k_=>P0_2_ k_)) zo hb);replace HB:=hbB HB hb
        (try clear hb)
        (try clear fs)
        (try clear hk)
        (try clear hi)
        refine hK.out _ _ (z3c D) (fun hHeld=>?_);clear hK K;refine znm (some 56) ?_;refine pu 8 (some 12) (mB 10 511) HT_ ?_;refine pu 9 (some 13) (mB 10 1023) HT_ ?_;refine done_ (done_of HT_.out zc) ?_;obtain⟨bp,bq,br,bz,b0,b1⟩:=cell3 D;have p27:0<=((ao):Int):=of_decide_eq_true asE;have cj:((ao):Int)<((I.length:Int):Int):=of_decide_eq_true asE;obtain⟨av,i4,ek,eo,fp,i2,ef⟩:=R_form HO_423002.out za
        (first|cases ek|(injection ek with ea_ en_ ec_;(first|subst ea_|(injection ea_ with ea_;subst ea_));subst ec_;clear en_))
        have fd:=aK eo;have iz:=aK ef;clear eo fp ef;have d5:=aK (show(P0_2_ av∨w.heap.size<=av)from(HO_423002.out.1 _ rfl));obtain⟨ch,gq⟩:=R_celln 0 HO_423002.out ((ao):Int) p27 cj;replace p27:=eq_true p27;replace cj:=eq_true cj;obtain⟨hy40_,hz40_⟩:=R_celln 0 HO_423002.out ((ao):Int) (of_decide_eq_true asE) (of_decide_eq_true asE);have dk:=R_putg HO_423002.out ((ao):Int) cu
        try go_wp2_with (first|((with_reducible refine gate_store (t:=5) (p:=66) rfl ?_);refine store_event (t:=5) (p:=66) (v:=?vo_w41) (w1:=(gp.setCell ⟨av,((ao):Int).toNat,none⟩ (.int .u8 cu))) ?hg ?ho ?hn ?hr ?_;(case ho=>rfl);(case hg=>rfl);(case hn=>rfl);(case hr=>first|(go_simp;done)|(go_simp;rfl));intro eb hw;have hg:gp.grownBy eb (some av):=(by rw[hw];exact dk.2);have hp_:Kd.R (Kd.int .u8) 5 eb w0.heap.size (fun k_=>(P0_2_ k_∨w.heap.size<=k_)) (.slice (some ⟨av,0,none⟩) I.length bl) df:=(by rw[hw,e2.out];exact dk.1);clear dk;replace HO_4:=aK (R_over' (v:=(.slice (some ⟨av,0,none⟩) I.length bl)) (kdA HO_4.out) (R_typed HO_423002.out) zb hg);replace D:=bkG D hg (R_ne HO_423002.out D.out zb);replace G:=bkG G hg (R_ne HO_423002.out G.out zb);replace HB:=aK ((by rw[hw];exact below_set (HB.out) fd.out:Below w0.heap.size w0 eb));replace HK:=aK (Kept.of_grown (S:=(fun k_=>P0_2_ k_)) hg zo (fun k_ e_=>(HO_423002.out.1 k_ e_)));replace HO_423002:=aK (hp_);clear hg hw hp_))
        replace HO_4:=aK (R_drew HO_4.out);replace HO_423002:=aK (R_drew HO_423002.out);replace D:=aK (blk_drew D.out);replace G:=aK (blk_drew G.out);replace HK:=aK (Kept.drew HK.out);replace HB:=aK (below_drew1 HB.out);refine start_ (n:=13) (S:=fun w'=>w'.cell? ⟨ag,0,none⟩=some (.int .i64 O)/\w'.cell? ⟨ag,1,none⟩=some (.int .i64 J)/\w'.cell? ⟨ag,2,none⟩=some (.slice (some ⟨av,0,none⟩) I.length bl)) (ds:= [12]) (.replicate 13 false) zc rfl rfl (z3c D) (fun hHeld=>?_);refine with_tabW recoupref04_wide.tab17 recoupref04_wide.bits17 (fun HT_ HW_=>?_);generalize eb.drew=jj at HO_4 HO_423002 D G HK HB hHeld⊢;refine pu 0 (some 67) (mB 13 1) HT_ ?_;refine pu 2 (some 69) (mB 13 5) HT_ ?_;refine pu 3 (some 70) (mB 13 13) HT_ ?_;refine pu 6 (some 73) (mB 13 77) HT_ ?_;refine pu 8 (some 75) (mB 13 333) HT_ ?_;refine pu 9 (some 76) (mB 13 845) HT_ ?_;refine tk3 1 (some 68) (mB 13 847) HT_ HW_ hHeld ?_;refine tk3 4 (some 71) (mB 13 863) HT_ HW_ hHeld ?_;refine pu 5 (some 72) (mB 13 895) HT_ ?_;refine pu 7 (some 74) (mB 13 1023) HT_ ?_;refine zoh 10 (some 77) (mB 13 2047) HT_ fun K hK=>?_;refine goes_ Tryd.func78 zc rfl #[.int .u8 aq,.int .u8 cv] ze rfl rfl (by(try simp only[List.map_toArray,List.map_cons,List.map_nil]);first|done|rfl|(simp only[List.length_drop,List.length_take];rfl)) ?_;with_reducible refine(recoupref01_Mul.calls k3 aq cv bf _ fb.out).mono ?_
        rintro e w' ⟨rfl,⟨nd,rfl⟩⟩;refine⟨_,rfl,?_⟩;have p32:0<=((ap):Int):=of_decide_eq_true asE;have ck:((ap):Int)<((I.length:Int):Int):=of_decide_eq_true asE;obtain⟨ci,gr⟩:=R_celln 0 HO_423002.out ((ap):Int) p32 ck;replace p32:=eq_true p32;replace ck:=eq_true ck;have dl:=R_putn HO_423002.out ((ap):Int) bf;rw[<-e3.out]at dl
        have fe:=aK dl;clear dl;refine hK.out _ _ (z3c D) (fun hHeld=>?_);clear hK K;refine znm (some 77) ?_;refine pu 11 (some 78) (mB 13 4095) HT_ ?_;refine zlh 12 (none) (mB 13 8191) HT_ fun K hK=>?_;refine zsk ?_;refine hK.out _ _ ?_;clear hK K;refine done_ (done_of HT_.out zc) ?_
        try go_wp2
        go_roundg k3
        case measure=>have:=ar.out;have:=au.out;have:=cd.out;omega
        case rel=>exact⟨(wrap64 (X+1)),(ev),(.slice (some ⟨av,0,none⟩) I.length bl),rsE,H',⟨by have:=ar.out;have:=au.out;have:=cd.out;omega⟩,⟨by(with_reducible repeat(first|apply R_alloc|apply R_drewN|apply R_drew));exact R_mono (R_far (p:=⟨av,((ap):Int).toNat,none⟩) (R_types HO_4.out (kd_block HO_423002.out).choose_spec zb) (fun _ hk=>hk.2) (.int .u8 bf)) (fun _ hk=>hk.1)⟩,⟨kdA fe.out⟩,⟨by refine bkR ?_;refine blk_far ?_ za2 _;refine bkR ?_;exact D.out⟩,⟨by refine bkR ?_;refine blk_far ?_ za1 _;refine bkR ?_;exact G.out⟩,⟨by repeat(first|(with_reducible first|exact HK.out|apply Kept.alloc|apply Kept.drewN|apply Kept.drew|refine Kept.setCell ?_ d5.out _|refine Kept.setCell ?_ (.inr U.out) _|refine Kept.setCell ?_ (.inr Z.out) _)|exact HK.out)⟩,⟨hbA HB.out⟩⟩
       rw[if_neg cg]at H
       have c21b0:decide (X<J)=false:=decide_eq_false cg;clear cg;have H':=aK H;clear H;have g7:=aa.out;have ik:=ab.out;obtain⟨bs,bt,bu,b2,b3,b4⟩:=cell3 D;go_wp2
       go_loopg [14] k3 (fun kq iu w'=> ∃(ak:Int) (af:List Int) (u423002:Value),iu= .int .i64 ak/\Aside0 (recoupref04_wide.l3 kq ai ae (ac.length:Int) ak O J af=some (r1,r2,r3,r4))/\Aside0 (kq<=k3)/\Aside0 (Kd.R (Kd.int .i64) 3 w' w0.heap.size (fun k_=>(P0_2_ k_∨w.heap.size<=k_)) u4 ai)/\Aside0 (Kd.R (Kd.int .u8) 5 w' w0.heap.size (fun k_=>(P0_2_ k_∨w.heap.size<=k_)) u423002 af)/\Aside0 (w'.heap[ag]? =some (.cells #[.int .i64 O,.int .i64 J,u423002] 24 (0,0)))/\Aside0 (w'.heap[aj]? =some (.cells #[.int .i64 0,.int .i64 0,(.slice none 0 0)] 24 (0,0)))/\Aside0 (Kept w w' (fun k_=>P0_2_ k_))/\Aside0 (Below w0.heap.size w0 w'))
       case atStart=>exact⟨(0),(I),(u423002),rsE,H',⟨Nat.le_refl _⟩,⟨kdA HO_4.out⟩,⟨kdA HO_423002.out⟩,⟨bkA D.out⟩,⟨bkA G.out⟩,⟨by repeat(first|(with_reducible first|exact HK.out|apply Kept.alloc|apply Kept.drewN|apply Kept.drew|refine Kept.setCell ?_ (.inr U.out) _|refine Kept.setCell ?_ (.inr Z.out) _)|exact HK.out)⟩,⟨hbA HB.out⟩⟩
       case round=>
        clear H'
        (try clear c1);(try clear c2);(try clear p2 p2);(try clear q2);(try clear gl);(try clear f5);(try clear c3);(try clear p3);(try clear q3);(try clear gm);(try clear f6);(try clear c4);(try clear c5);(try clear c5b0);(try clear c6);(try clear p6 p6);(try clear c7);(try clear c9);(try clear c9b0);(try clear bk);(try clear c11b0);(try clear c11b1);(try clear e6);(try clear e7);(try clear cg);(try clear c21b0);(try clear cy);(try clear c25b0);(try clear cz);(try clear c26b0);(try clear p27 p27);(try clear cj cj);(try clear et);(try clear er);(try clear c8);(try clear c30b0);(try clear da);(try clear c31b0);(try clear p32 p32);(try clear ck ck);(try clear eu);(try clear es);(try clear fg);(try clear fh);(try clear aw ax ay a5 a6 a7);(try clear az a0 a1 a8 a9 ba);(try clear bm bn bo bv bw bx);(try clear bp bq br bz b0 b1);(try clear bs bt bu b2 b3 b4);(try clear a2 a3 a4 bb bc bd);(try clear ch);(try clear ci)
        obtain⟨ak,af,u423002,rfl,HA,cl,HO_4,HO_423002,D,G,HK,HB⟩:=hrel
        cases gk with
        |zero=>exact absurd HA.out (by simp[recoupref04_wide.l3])
        |succ k4=>
         have H:=HA.out;clear HA;simp only[recoupref04_wide.l3]at H;by_cases cm:ak<O
         case neg=>
          rw[if_neg cm]at H
          have c46b0:decide (ak<O)=false:=decide_eq_false cm;clear cm;by_cases ea:ai.length<17592186044416
          case neg=>rw[if_neg ea]at H;exact absurd H zd
          rw[if_pos ea]at H
          have e1:=aK ea;clear ea;obtain⟨ew,b9⟩: ∃y_:List Int,y_=(ai++ [ae]):=⟨_,rfl⟩
          replace H:(recoupref04_wide.l0 k4 ew (wrap64 (ae+1)) O J af)=some (r1,r2,r3,r4):=zH b9 H
          have e4:=aK b9;clear b9;have H':=aK H;clear H;have ib:=aa.out;have ip:=ab.out;obtain⟨ft,fu,fv,f7,f8,f9⟩:=cell3 D
          go_wp2_with (first|((with_reducible refine gate_builtin (b:= .append) (xs:= #[.tmp 118,.tmp 120]) rfl ?_);at_builtin;refine Kd.R_append (Kd.int .i64) (w0:=w0) w0.heap.size rfl (.tmp 118) (.tmp 120) 56 3 (.int .i64 0) 8 rfl Tryd.underlying56 info3 rfl zb za u4 ai ae [.int .i64 ae] (fun k_=>(P0_2_ k_∨w.heap.size<=k_)) (fun _=>False) rfl rfl ?aP (fun _ hk=>hk.elim) ?aF ?aO ?aB ?aS ?aL ?_;(case aP=>exact rfl);(case aB=>exact(hbA HB.out));(case aF=>exact(fun k_ hk=>(.inr (Nat.le_trans (by first|exact HK.out.1|exact(show Kept w _ (fun k_=>P0_2_ k_)from by repeat(first|(with_reducible first|exact HK.out|apply Kept.alloc|apply Kept.drewN|apply Kept.drew|refine Kept.setCell ?_ (.inr U.out) _|refine Kept.setCell ?_ (.inr Z.out) _)|exact HK.out)).1) hk))));(case aO=>exact(kdA HO_4.out));(case aS=>exact(below_size (hbA HB.out)));(case aL=>have:=e1.out;omega);intro i9 jn ho hb hg hat;rw[<-e4.out]at ho;have n0_:=aK (R_over' (kdA HO_423002.out) (R_typed (kdA HO_4.out)) zb hg);have n1_:=aK (blk_grown (g:=ag) (o:= .cells #[.int .i64 O,.int .i64 J,u423002] 24 (0,0)) (bkA D.out) hg (R_ne HO_4.out D.out zb));have n2_:=aK (blk_grown (g:=aj) (o:= .cells #[.int .i64 0,.int .i64 0,.slice none 0 0] 24 (0,0)) (bkA G.out) hg (R_ne HO_4.out G.out zb));have n3_:=aK (hb);have n4_:=aK (Kept.of_grown (S:=(fun k_=>P0_2_ k_)) hg zo (fun k_ e_=>(HO_4.out.1 k_ e_)));have n5_:=aK (ho);clear HO_423002;clear D;clear G;clear HB;clear HK;clear HO_4;have HO_423002:=n0_;have D:=n1_;have G:=n2_;have HB:=n3_;have HK:=n4_;have e0:=n5_;clear n0_ n1_ n2_ n3_ n4_ n5_;clear ho hb hg hat))
          go_roundg k4
          case measure=>have:=ar.out;have:=au.out;have:=cd.out;have:=cl.out;omega
          case rel=>exact⟨(ew),(wrap64 (ae+1)),(af),(u423002),rsE,H',⟨by have:=ar.out;have:=au.out;have:=cd.out;have:=cl.out;omega⟩,⟨kdA e0.out⟩,⟨kdA HO_423002.out⟩,⟨bkA D.out⟩,⟨bkA G.out⟩,⟨by repeat(first|(with_reducible first|exact HK.out|apply Kept.alloc|apply Kept.drewN|apply Kept.drew|refine Kept.setCell ?_ (.inr U.out) _|refine Kept.setCell ?_ (.inr Z.out) _)|exact HK.out)⟩,⟨hbA HB.out⟩⟩
         rw[if_pos cm]at H
         have c46b0:decide (ak<O)=true:=decide_eq_true cm;clear cm;obtain⟨bi,gv,H⟩:=bindO H
         (try dsimp only at H)
         have H':=aK H;clear H;have g8:=aa.out;have il:=ab.out;obtain⟨cn,co,cp,cq,cr,ct⟩:=cell3 D;obtain⟨ee,ej,fm⟩:=R_slice HO_423002.out;subst fm
         go_wp2_with (first|((with_reducible refine gC 49 rfl ?_);refine cG (some 88) Tryd.func49 #[.agg #[.int .i64 O,.int .i64 J,.slice ee af.length ej],.int .i64 ak,.int .i64 ae] ?_;(with_reducible refine(recoupref03_At.calls O J _ _ af ak ae bi _ ?side1 ?side2 gv.out).mono ?_);(case side1=>exact kcA (R_reads' HO_423002.out).2.2);(case side2=>exact(R_reads' HO_423002.out).2.1);rintro e jk ⟨rfl,hb⟩;refine⟨_,rfl,?_⟩;replace HO_4:=kdB HO_4 hb;replace HO_423002:=kdB HO_423002 hb;replace D:=bkB D hb;replace G:=bkB G hb;replace HK:=aK (Kept.below (S:=(fun k_=>P0_2_ k_)) zo hb);replace HB:=hbB HB hb;(try clear hb)))
         go_loopg [16] k4 (fun kq iv w'=> ∃(al:Int) (L:List Int) (u423002:Value),iv= .int .i64 al/\Aside0 (recoupref04_wide.l4 kq ai ae (ac.length:Int) ak bi al O J L=some (r1,r2,r3,r4))/\Aside0 (kq<=k4)/\Aside0 (Kd.R (Kd.int .i64) 3 w' w0.heap.size (fun k_=>(P0_2_ k_∨w.heap.size<=k_)) u4 ai)/\Aside0 (Kd.R (Kd.int .u8) 5 w' w0.heap.size (fun k_=>(P0_2_ k_∨w.heap.size<=k_)) u423002 L)/\Aside0 (w'.heap[ag]? =some (.cells #[.int .i64 O,.int .i64 J,u423002] 24 (0,0)))/\Aside0 (w'.heap[aj]? =some (.cells #[.int .i64 0,.int .i64 0,(.slice none 0 0)] 24 (0,0)))/\Aside0 (Kept w w' (fun k_=>P0_2_ k_))/\Aside0 (Below w0.heap.size w0 w'))
         case atStart=>exact⟨(0),(af),(.slice ee af.length ej),rsE,H',⟨Nat.le_refl _⟩,⟨kdA HO_4.out⟩,⟨kdA HO_423002.out⟩,⟨bkA D.out⟩,⟨bkA G.out⟩,⟨by repeat(first|(with_reducible first|exact HK.out|apply Kept.alloc|apply Kept.drewN|apply Kept.drew|refine Kept.setCell ?_ (.inr U.out) _|refine Kept.setCell ?_ (.inr Z.out) _)|exact HK.out)⟩,⟨hbA HB.out⟩⟩
         case round=>
          clear H'
          (try clear c1);(try clear c2);(try clear p2 p2);(try clear q2 q2);(try clear gl);(try clear f5);(try clear c3);(try clear p3 p3);(try clear q3 q3);(try clear gm);(try clear f6);(try clear c4);(try clear c5);(try clear c5b0);(try clear c6);(try clear p6 p6);(try clear c7);(try clear c9);(try clear c9b0);(try clear bk);(try clear c11b0);(try clear c11b1);(try clear e6);(try clear e7);(try clear cg);(try clear c21b0);(try clear cy);(try clear c25b0);(try clear cz);(try clear c26b0);(try clear p27 p27);(try clear cj cj);(try clear et);(try clear er);(try clear c8);(try clear c30b0);(try clear da);(try clear c31b0);(try clear p32 p32);(try clear ck ck);(try clear eu);(try clear es);(try clear fg);(try clear fh);(try clear cm);(try clear c46b0);(try clear g0);(try clear g1);(try clear aw ax ay a5 a6 a7);(try clear az a0 a1 a8 a9 ba);(try clear bm bn bo bv bw bx);(try clear bp bq br bz b0 b1);(try clear bs bt bu b2 b3 b4);(try clear cn co cp cq cr ct);(try clear a2 a3 a4 bb bc bd);(try clear ch);(try clear ci)
          obtain⟨al,L,u423002,rfl,HA,dg,HO_4,HO_423002,D,G,HK,HB⟩:=hrel
          cases gk with
          |zero=>exact absurd HA.out (by simp[recoupref04_wide.l4])
          |succ k5=>
           have H:=HA.out;clear HA;simp only[recoupref04_wide.l4]at H;have dj:=aK H;clear H
           go_upto_region 23 with(fail)
           go_cut [97] (fun iw wc=> ∃(kq:Nat) (bj:Bool),iw= .bool bj/\Aside0 (recoupref04_wide.j5 kq ai ae (ac.length:Int) ak bi al bj O J L=some (r1,r2,r3,r4))/\Aside0 (kq<=k5)/\Aside0 (Kd.R (Kd.int .i64) 3 wc w0.heap.size (fun k_=>(P0_2_ k_∨w.heap.size<=k_)) u4 ai)/\Aside0 (Kd.R (Kd.int .u8) 5 wc w0.heap.size (fun k_=>(P0_2_ k_∨w.heap.size<=k_)) u423002 L)/\Aside0 (wc.heap[ag]? =some (.cells #[.int .i64 O,.int .i64 J,u423002] 24 (0,0)))/\Aside0 (wc.heap[aj]? =some (.cells #[.int .i64 0,.int .i64 0,(.slice none 0 0)] 24 (0,0)))/\Aside0 (Kept w wc (fun k_=>P0_2_ k_))/\Aside0 (Below w0.heap.size w0 wc))
           case first=>
            have H:=dj.out;clear dj;by_cases db:al<J
            case neg=>
             rw[if_neg db]at H
             have c53b0:decide (al<J)=false:=decide_eq_false db;clear db
             (first|rw[c53b0] |(simp only[i64_w,i32_w];rw[c53b0])|skip)
             have H':=aK H;clear H;have ia:=aa.out;have io:=ab.out;obtain⟨du,dv,dw,d0,d1,d2⟩:=cell3 D;go_wp2
             go_meet
             case rel=>exact⟨_,(false),rsE,H',⟨by have:=ar.out;have:=au.out;have:=cd.out;have:=cl.out;have:=dg.out;first|omega|exact Nat.le_refl _⟩,⟨kdA HO_4.out⟩,⟨kdA HO_423002.out⟩,⟨bkA D.out⟩,⟨bkA G.out⟩,⟨by repeat(first|(with_reducible first|exact HK.out|apply Kept.alloc|apply Kept.drewN|apply Kept.drew|refine Kept.setCell ?_ (.inr U.out) _|refine Kept.setCell ?_ (.inr Z.out) _)|exact HK.out)⟩,⟨hbA HB.out⟩⟩
            rw[if_pos db]at H
            have c53b0:decide (al<J)=true:=decide_eq_true db;clear db
            (first|rw[c53b0] |(simp only[i64_w,i32_w];rw[c53b0])|skip)
            have H':=aK H;clear H;have g9:=aa.out;have im:=ab.out;obtain⟨dq,dr,dt,dx,dy,dz⟩:=cell3 D;go_wp2
            go_meet
            case rel=>exact⟨_,((ak !=(ac.length:Int))),rsE,H',⟨by have:=ar.out;have:=au.out;have:=cd.out;have:=cl.out;have:=dg.out;first|omega|exact Nat.le_refl _⟩,⟨kdA HO_4.out⟩,⟨kdA HO_423002.out⟩,⟨bkA D.out⟩,⟨bkA G.out⟩,⟨by repeat(first|(with_reducible first|exact HK.out|apply Kept.alloc|apply Kept.drewN|apply Kept.drew|refine Kept.setCell ?_ (.inr U.out) _|refine Kept.setCell ?_ (.inr Z.out) _)|exact HK.out)⟩,⟨hbA HB.out⟩⟩
           case rest=>
            clear dj
            (try clear c1);(try clear c2);(try clear p2 p2);(try clear q2 q2);(try clear gl);(try clear f5);(try clear c3);(try clear p3 p3);(try clear q3 q3);(try clear gm);(try clear f6);(try clear c4);(try clear c5);(try clear c5b0);(try clear c6);(try clear p6 p6);(try clear c7);(try clear c9);(try clear c9b0);(try clear bk);(try clear c11b0);(try clear c11b1);(try clear e6);(try clear e7);(try clear cg);(try clear c21b0);(try clear cy);(try clear c25b0);(try clear cz);(try clear c26b0);(try clear p27 p27);(try clear cj cj);(try clear et);(try clear er);(try clear c8);(try clear c30b0);(try clear da);(try clear c31b0);(try clear p32 p32);(try clear ck ck);(try clear eu);(try clear es);(try clear fg);(try clear fh);(try clear cm);(try clear c46b0);(try clear g0);(try clear g1);(try clear db);(try clear c53b0);(try clear jc);(try clear jd);(try clear aw ax ay a5 a6 a7);(try clear az a0 a1 a8 a9 ba);(try clear bm bn bo bv bw bx);(try clear bp bq br bz b0 b1);(try clear bs bt bu b2 b3 b4);(try clear cn co cp cq cr ct);(try clear dq dr dt dx dy dz);(try clear du dv dw d0 d1 d2);(try clear a2 a3 a4 bb bc bd);(try clear ch);(try clear ci)
            obtain⟨kq,bj,rfl,HA,dd,HO_4,HO_423002,D,G,HK,HB⟩:=hcut
            cases kq with
            |zero=>exact absurd HA.out (by simp[recoupref04_wide.j5])
            |succ ce=>
             have H:=HA.out;clear HA;simp only[recoupref04_wide.j5]at H;by_cases d7:bj=true
             case neg=>
              replace d7:=Bool.eq_false_iff.mpr d7;subst d7;rw[if_neg nofT]at H
              have H':=aK H;clear H;go_wp2
              go_roundg ce
              case measure=>have:=ar.out;have:=au.out;have:=cd.out;have:=cl.out;have:=dg.out;have:=dd.out;omega
              case rel=>exact⟨(wrap64 (ak+1)),(L),(u423002),rsE,H',⟨by have:=ar.out;have:=au.out;have:=cd.out;have:=cl.out;have:=dg.out;have:=dd.out;omega⟩,⟨kdA HO_4.out⟩,⟨kdA HO_423002.out⟩,⟨bkA D.out⟩,⟨bkA G.out⟩,⟨by repeat(first|(with_reducible first|exact HK.out|apply Kept.alloc|apply Kept.drewN|apply Kept.drew|refine Kept.setCell ?_ (.inr U.out) _|refine Kept.setCell ?_ (.inr Z.out) _)|exact HK.out)⟩,⟨hbA HB.out⟩⟩
             subst d7;rw[if_pos rfl]at H
             obtain⟨ah,dc⟩: ∃j_:Int,(wrap64 ((wrap64 (ak*J))+al))=j_:=⟨_,rfl⟩
             replace H:(if 0<=(ah)then(if(ah)<(L.length:Int)then((recoupref03_At.f O J L (ac.length:Int) al).bind fun cw=>((recoupref01_Mul.f ce bi cw).bind fun cf=>(recoupref04_wide.l4 ce ai ae (ac.length:Int) ak bi (wrap64 (al+1)) O J (L.set ((ah):Int).toNat (Go.bits .xor .u8 (rd L (ah)) cf)))))else(none))else(none))=some (r1,r2,r3,r4):=by first|(rw[dc]at H;exact H)|(simp only[dc]at H⊢;exact H)
             have hji59w:(IntKind.i64.wrap ((wrap64 (ak*J))+al))=ah:=(i64_w _).trans dc;by_cases d8:0<=(ah)
             case neg=>rw[if_neg d8]at H;exact absurd H zd
             rw[if_pos d8]at H
             have c60b0:decide (0<=(ah))=true:=decide_eq_true d8;clear d8;by_cases d9:(ah)<(L.length:Int)
             case neg=>rw[if_neg d9]at H;exact absurd H zd
             rw[if_pos d9]at H
             have c61b0:decide ((ah)<(L.length:Int))=true:=decide_eq_true d9;clear d9;obtain⟨cw,gw,H⟩:=bindO H
             (try dsimp only at H)
             obtain⟨cf,gx,H⟩:=bindO H
             (try dsimp only at H)
             obtain⟨ex,ca⟩: ∃y_:List Int,y_=(L.set ((ah):Int).toNat (Go.bits .xor .u8 (rd L (ah)) cf)):=⟨_,rfl⟩
             replace H:(recoupref04_wide.l4 ce ai ae (ac.length:Int) ak bi (wrap64 (al+1)) O J ex)=some (r1,r2,r3,r4):=zH ca H
             have e5:=aK ca;clear ca;have H':=aK H;clear H
             try go_wp2
             replace HO_4:=aK (R_drew HO_4.out);replace HO_423002:=aK (R_drew HO_423002.out);replace D:=aK (blk_drew D.out);replace G:=aK (blk_drew G.out);replace HK:=aK (Kept.drew HK.out);replace HB:=aK (below_drew1 HB.out);obtain⟨ix,dn,en⟩:=R_slice HO_423002.out
             (first|subst en|(injection en with f1_ f2_ f3_;have f4_:=f1_.symm;have f5_:=f3_.symm;clear f1_ f2_ f3_;subst f4_;subst f5_))
             have d3:0<=((ah):Int):=of_decide_eq_true asE;have d4:(ah)<(L.length:Int):=of_decide_eq_true asE;obtain⟨cx,fj,b6⟩:=Kd.at_int (R_reads' HO_423002.out).2.2 (ah) d3 d4
             cases fj
             replace d3:=eq_true d3;replace d4:=eq_true d4;refine start_ (n:=19) (S:=fun w'=>w'.cell? ⟨ag,0,none⟩=some (.int .i64 O)/\w'.cell? ⟨ag,1,none⟩=some (.int .i64 J)/\w'.cell? ⟨ag,2,none⟩=some (.slice (some cx) L.length dn)/\w'.cell? (cx.add ((ah)).toNat)=some (.int .u8 (rd L (ah)))) (ds:= [18]) (.replicate 19 false) zc rfl rfl (z3k D b6) (fun hHeld=>?_);refine with_tabW recoupref04_wide.tab25 recoupref04_wide.bits25 (fun HT_ HW_=>?_);generalize wc.drew=jl at HO_4 HO_423002 D G HK HB b6 hHeld⊢;refine pu 0 (some 100) (mB 19 1) HT_ ?_;refine pu 2 (some 102) (mB 19 5) HT_ ?_;refine pu 3 (some 103) (mB 19 13) HT_ ?_;refine pu 6 (some 106) (mB 19 77) HT_ ?_;refine pu 10 (some 110) (mB 19 1101) HT_ ?_;refine pu 12 (some 112) (mB 19 5197) HT_ ?_;refine pu 13 (some 113) (mB 19 13389) HT_ ?_;refine tk4 1 (some 101) (mB 19 13391) HT_ HW_ hHeld ?_;refine tk4 4 (some 104) (mB 19 13407) HT_ HW_ hHeld ?_;refine pu 5 (some 105) (mB 19 13439) HT_ ?_;refine pu 7 (some 107) (mB 19 13567) HT_ ?_;refine pu 8 (some 108) (mB 19 13823) HT_ ?_;refine tk4 9 (some 109) (mB 19 14335) HT_ HW_ hHeld ?_;refine tk4 11 (some 111) (mB 19 16383) HT_ HW_ hHeld ?_;refine zoh 14 (some 114) (mB 19 32767) HT_ fun K hK=>?_;refine goes_ Tryd.func49 zc rfl #[.agg #[.int .i64 O,.int .i64 J,.slice (some cx) L.length dn],.int .i64 (ac.length:Int),.int .i64 al] ze rfl rfl (by(try simp only[List.map_toArray,List.map_cons,List.map_nil]);first|done|rfl|(simp only[List.length_drop,List.length_take];rfl)) ?_;with_reducible refine(recoupref03_At.calls O J _ _ L (ac.length:Int) al cw _ ?side1 ?side2 gw.out).mono ?_
             (case side1=>exact kcA (R_reads' HO_423002.out).2.2)
             (case side2=>exact(R_reads' HO_423002.out).2.1)
             rintro e jm ⟨rfl,hb⟩;have HS3_:=(hb.cell (World.block_lt_of_cell? _ _ (hHeld.2.2.2))).trans (hHeld.2.2.2);refine⟨_,rfl,?_⟩;replace HO_4:=kdB HO_4 hb;replace HO_423002:=kdB HO_423002 hb;replace D:=bkB D hb;replace G:=bkB G hb;replace HK:=aK (Kept.below (S:=(fun k_=>P0_2_ k_)) zo hb);replace HB:=hbB HB hb
             (try clear hb)
             (try clear fs)
             (try clear hk)
             (try clear hi)
             refine hK.out _ _ (z3k D HS3_) (fun hHeld=>?_);clear hK K;refine znm (some 114) ?_;refine zoh 15 (some 115) (mB 19 65535) HT_ fun K hK=>?_;refine goes_ Tryd.func78 zc rfl #[.int .u8 bi,.int .u8 cw] ze rfl rfl (by(try simp only[List.map_toArray,List.map_cons,List.map_nil]);first|done|rfl|(simp only[List.length_drop,List.length_take];rfl)) ?_;with_reducible refine(recoupref01_Mul.calls ce bi cw cf _ gx.out).mono ?_
             rintro e w' ⟨rfl,⟨nd,rfl⟩⟩;refine⟨_,rfl,?_⟩;have p64:0<=((ah):Int):=of_decide_eq_true asE;have e9:((ah):Int)<((L.length:Int):Int):=of_decide_eq_true asE;obtain⟨de,i5,em,ep,fq,i3,eg⟩:=R_form HO_423002.out za
             (first|cases em|(injection em with ea_ en_ ec_;(first|subst ea_|(injection ea_ with ea_;subst ea_));subst ec_;clear en_))
             have iy:=aK ep;have i1:=aK eg;clear ep fq eg;have d6:=aK (show(P0_2_ de∨w.heap.size<=de)from(HO_423002.out.1 _ rfl))
             (first|simp only[add_plain]at b6|skip)
             obtain⟨gt,gs⟩:=R_celln 0 HO_423002.out ((ah):Int) p64 e9;replace p64:=eq_true p64;replace e9:=eq_true e9;have dm:=R_putn HO_423002.out ((ah):Int) (Go.bits .xor .u8 (rd L (ah)) cf);rw[<-e5.out]at dm
             have ff:=aK dm;clear dm;refine hK.out _ _ (z3k D hHeld.2.2.2) (fun hHeld=>?_);clear hK K;refine znm (some 115) ?_;refine pu 16 (some 116) (mB 19 131071) HT_ ?_;refine pu 17 (some 117) (mB 19 262143) HT_ ?_;refine zlh 18 (none) (mB 19 524287) HT_ fun K hK=>?_;refine zsk ?_;refine hK.out _ _ ?_;clear hK K;refine done_ (done_of HT_.out zc) ?_
             try go_wp2
             go_roundg ce
             case measure=>have:=ar.out;have:=au.out;have:=cd.out;have:=cl.out;have:=dg.out;have:=dd.out;omega
             case rel=>exact⟨(wrap64 (al+1)),(ex),(.slice (some ⟨de,0,none⟩) L.length dn),rsE,H',⟨by have:=ar.out;have:=au.out;have:=cd.out;have:=cl.out;have:=dg.out;have:=dd.out;omega⟩,⟨by(with_reducible repeat(first|apply R_alloc|apply R_drewN|apply R_drew));exact R_mono (R_far (p:=⟨de,((ah):Int).toNat,none⟩) (R_types HO_4.out (kd_block HO_423002.out).choose_spec zb) (fun _ hk=>hk.2) (.int .u8 (Go.bits .xor .u8 (rd L (ah)) cf))) (fun _ hk=>hk.1)⟩,⟨kdA ff.out⟩,⟨by refine bkR ?_;refine blk_far ?_ za2 _;refine bkR ?_;exact D.out⟩,⟨by refine bkR ?_;refine blk_far ?_ za1 _;refine bkR ?_;exact G.out⟩,⟨by repeat(first|(with_reducible first|exact HK.out|apply Kept.alloc|apply Kept.drewN|apply Kept.drew|refine Kept.setCell ?_ d6.out _|refine Kept.setCell ?_ (.inr U.out) _|refine Kept.setCell ?_ (.inr Z.out) _)|exact HK.out)⟩,⟨hbA HB.out⟩⟩
mutual
def recoupref04_Solve.j0:Nat->List Int->Bool->Int->Int->List Int->Option (List Int×Bool×Int)
 |0,_,_,_,_,_=>none
 |k+1,x1,J,D,G,I=>if J=true then(some (([]:List Int),false,3))else(recoupref04_Solve.l0 k x1 0 D G I D (wrap64 (G+1)) ([]:List Int))
def recoupref04_Solve.l0:Nat->List Int->Int->Int->Int->List Int->Int->Int->List Int->Option (List Int×Bool×Int)
 |0,_,_,_,_,_,_,_,_=>none
 |k+1,x1,x8,G,D,I,O,U,J=>if x8<G then((recoupref03_Row.f k G D I x8).bind fun X=>(if J.length+X.1.length<140737488355328 then((some (J++X.1:List Int)).bind fun Y=>(if 0<=x8 then(if x8<(x1.length:Int)then((some (([rd x1 x8]:List Int):List Int)).bind fun Z=>(if Y.length+Z.length<140737488355328 then(recoupref04_Solve.l0 k x1 (wrap64 (x8+1)) G D I O U (Y++Z))else(none)))else(none))else(none)))else(none)))else((recoupref04_wide.f k O U J).bind fun L=>(if 0<=D then(if(D:Int).toNat<=281474976710656 then(recoupref04_Solve.l1 k L.2.2.2 (List.replicate (D:Int).toNat 0) 0 G D I L.1 L.2.1 L.2.2.1)else(none))else(none)))
def recoupref04_Solve.l1:Nat->List Int->List Int->Int->Int->Int->List Int->Int->Int->List Int->Option (List Int×Bool×Int)
 |0,_,_,_,_,_,_,_,_,_=>none
 |k+1,O,Y,G,U,D,X,I,J,L=>if G<(O.length:Int)then(if 0<=G then(if(rd O G)=D then(some (([]:List Int),false,0))else((recoupref03_At.f I J L G D).bind fun Z=>(if 0<=(rd O G)then(if(rd O G)<(Y.length:Int)then(recoupref04_Solve.l1 k O (Y.set ((rd O G):Int).toNat Z) (wrap64 (G+1)) U D X I J L)else(none))else(none))))else(none))else(some (Y,true,0))
end
def recoupref04_Solve.f(k:Nat)(D:Int)(G:Int)(I:List Int)(l1:List Int):Option (List Int×Bool×Int):=(recoupref03_Right.f D G I).bind fun J=>(if J=true then(recoupref04_Solve.j0 k l1 ((l1.length:Int)!=D) D G I)else(recoupref04_Solve.j0 k l1 true D G I))
def recoupref04_Solve.T8:Bool×List (List Nat×List Nat):=(true,[([],[]),([0],[0]),([],[]),([1,2],[1,2]),([],[]),([],[]),([4,5],[4,5]),([6],[6]),([7],[7]),([3,8,3],[3,8]),([0,1,2,3,4,5,6,7,8,9],[]),([10,9,9,0,1,2,3,4,5,6,7,8,9],[9,10])])
def recoupref04_Solve.B8:List Nat:= [0,1,0,7,0,0,48,112,240,511,1023,2047]
theorem recoupref04_Solve.tab8:rtab .any (opsOf Tryd.f74 8)=recoupref04_Solve.T8:=by kernel_rfl
theorem recoupref04_Solve.bits8:waitsOk recoupref04_Solve.T8.2 recoupref04_Solve.B8=true:=by kernel_rfl
def recoupref04_Solve.T16:Bool×List (List Nat×List Nat):=(true,[([],[]),([],[]),([],[]),([1,2],[1,2]),([3],[3]),([],[]),([],[]),([],[]),([7],[7]),([5,6,8],[5,6,8]),([0,4,0,1,2,3,4,5,6,7,8,9],[0,4]),([10,9,9,0,1,2,3,4,5,6,7,8,9],[9,10])])
def recoupref04_Solve.B16:List Nat:= [0,0,0,6,14,0,0,0,128,480,1023,2047]
theorem recoupref04_Solve.tab16:rtab .any (opsOf Tryd.f74 16)=recoupref04_Solve.T16:=by kernel_rfl
theorem recoupref04_Solve.bits16:waitsOk recoupref04_Solve.T16.2 recoupref04_Solve.B16=true:=by kernel_rfl
theorem recoupref04_Solve.calls(k:Nat)(O:Int)(J:Int)(ah:Option Addr)(ai:Nat)(Z:List Int)(A1:Option Addr)(c1:Nat)(l1:List Int)(r1:List Int)(r2:Bool)(r3:Int)(w:World)(ej:Kd.C (Kd.int .u8) w ah Z.length Z)(dm:Z.length<=ai)(fx:Kd.C (Kd.int .u8) w A1 l1.length l1)(ft:l1.length<=c1)(h:recoupref04_Solve.f k O J Z l1=some (r1,r2,r3)):
 Calls Tryd.prog 74 #[.agg #[.int .i64 O,.int .i64 J,.slice ah Z.length ai],.slice A1 l1.length c1] w fun e w'=> ∃v0_:Value,e= .returned (.tuple #[v0_,.bool r2,.int .i64 r3])/\Kd.R (Kd.int .u8) 5 w' w.heap.size (fun _=>True) v0_ r1/\Below w.heap.size w w':=by
 have g6:=Tryd.underlying24;have co:=aK ej;have cn:=aK dm;clear ej dm;have ga:=aK fx;have ib:=aK ft;clear fx ft;have HB:=aK (Below.refl w.heap.size w);have H:((recoupref03_Right.f O J Z).bind fun em=>(if em=true then(recoupref04_Solve.j0 k l1 ((l1.length:Int)!=O) O J Z)else(recoupref04_Solve.j0 k l1 true O J Z)))=some (r1,r2,r3):=h;clear h;have e7:=aK H;clear H
 go_enter Tryd.func74,Tryd.ntmps74
 go_upto_region 1 with(first|((with_reducible refine gD 2 rfl ?_);(try(refine gate_guard ze ?_;dsimp only));refine bE 2 #[.int .i64 O,.int .i64 J,.slice ah Z.length ai] 24 ?_;intro ae hg w4 hbox hb;have D:=aK (hbox);have f7:=hbS HB hg;have e5:=hbS HB hg;replace HB:=hbB HB hb;clear hb hbox hg))
 (try simp only[Act.put,zL])
 go_cut [24] (fun gr wc=> ∃(kq:Nat) (b5:Bool),gr= .bool b5/\Aside0 (recoupref04_Solve.j0 kq l1 b5 O J Z=some (r1,r2,r3))/\Aside0 (kq<=k)/\Aside0 (wc.heap[ae]? =some (.cells #[.int .i64 O,.int .i64 J,(.slice ah Z.length ai)] 24 (0,0)))/\Aside0 (Below w.heap.size w wc))
 case first=>
  have H:=e7.out;clear e7;obtain⟨em,A5,H⟩:=bindO H
  (try dsimp only at H)
  by_cases c6:em=true
  ·subst c6;rw[if_pos rfl]at H
   have H':=aK H;clear H;obtain⟨bs,bt,bu,bz,b0,b1⟩:=cell3 D
   go_wp2_with (first|((with_reducible refine gC 45 rfl ?_);refine cG (some 16) Tryd.func45 #[.agg #[.int .i64 O,.int .i64 J,.slice ah Z.length ai]] ?_;(with_reducible refine(recoupref03_Right.calls O J _ _ Z true _ ?side1 ?side2 A5.out).mono ?_);(case side1=>exact kcB co HB);(case side2=>exact cn.out);rintro e w8 ⟨rfl,hb⟩;refine⟨_,rfl,?_⟩;replace D:=bkB D hb;replace HB:=hbB HB hb;(try clear hb);obtain⟨bv,bw,bx,b2,b3,b4⟩:=cell3 D))
   go_meet
   case rel=>exact⟨_,(((l1.length:Int)!=O)),rsE,H',⟨leE⟩,⟨bkA D.out⟩,⟨hbA HB.out⟩⟩
  replace c6:=Bool.eq_false_iff.mpr c6;subst c6;rw[if_neg nofT]at H
  have H':=aK H;clear H;obtain⟨ba,bb,bc,bd,be,bf⟩:=cell3 D
  go_wp2_with (first|((with_reducible refine gC 45 rfl ?_);refine cG (some 16) Tryd.func45 #[.agg #[.int .i64 O,.int .i64 J,.slice ah Z.length ai]] ?_;(with_reducible refine(recoupref03_Right.calls O J _ _ Z false _ ?side1 ?side2 A5.out).mono ?_);(case side1=>exact kcB co HB);(case side2=>exact cn.out);rintro e io ⟨rfl,hb⟩;refine⟨_,rfl,?_⟩;replace D:=bkB D hb;replace HB:=hbB HB hb;(try clear hb)))
  go_meet
  case rel=>exact⟨_,(true),rsE,H',⟨leE⟩,⟨bkA D.out⟩,⟨hbA HB.out⟩⟩
 case rest=>
  clear e7
  (try clear c1);(try clear p2);(try clear c4);(try clear c6);(try clear c7);(try clear ba bb bc bd be bf);(try clear bs bt bu bz b0 b1);(try clear bv bw bx b2 b3 b4)
  obtain⟨kq,b5,rfl,HA,en,D,HB⟩:=hcut
  cases kq with
  |zero=>exact absurd HA.out (by simp[recoupref04_Solve.j0])
  |succ fy=>
   have H:=HA.out;clear HA;simp only[recoupref04_Solve.j0]at H;by_cases cy:b5=true
   ·subst cy;rw[if_pos rfl]at H
    obtain⟨rfl,rfl,rfl⟩:=zP3 H;go_wp2
    go_ret3
    exact⟨_,rfE,nilE,hbA HB.out⟩
   replace cy:=Bool.eq_false_iff.mpr cy;subst cy;rw[if_neg nofT]at H
   have H':=aK H;clear H;obtain⟨b8,b9,ca,cf,cg,ch⟩:=cell3 D
   go_wp2_with (first|((with_reducible refine gD 7 rfl ?_);(try(refine gate_guard ze ?_;dsimp only));refine bE 7 #[.int .i64 0,.int .i64 0,.slice none 0 0] 24 ?_;intro ab hg ip hbox hb;have G:=aK (hbox);have f8:=hbS HB hg;have e6:=hbS HB hg;replace HB:=hbB HB hb;have af:=neL D hg;have aq:=neG D hg;replace D:=bkB D hb;clear hb hbox hg;have ge:=aq.out;have gj:=af.out;obtain⟨cb,cd,ce,ci,cj,ck⟩:=cell3 G))
   go_loopg [8] fy (fun kq v8 w'=> ∃(X:Int) (I:List Int) (u443002:Value),v8= .int .i64 X/\Aside0 (recoupref04_Solve.l0 kq l1 X O J Z O (wrap64 (J+1)) I=some (r1,r2,r3))/\Aside0 (kq<=fy)/\Aside0 (Kd.R (Kd.int .u8) 5 w' w.heap.size (fun _=>True) u443002 I)/\Aside0 (w'.heap[ae]? =some (.cells #[.int .i64 O,.int .i64 J,(.slice ah Z.length ai)] 24 (0,0)))/\Aside0 (w'.heap[ab]? =some (.cells #[.int .i64 O,.int .i64 (wrap64 (J+1)),u443002] 24 (0,0)))/\Aside0 (Below w.heap.size w w'))
   case atStart=>exact⟨(0),(([]:List Int)),(.slice none 0 0),rsE,H',⟨Nat.le_refl _⟩,⟨nilE⟩,⟨by refine bkR ?_;refine blk_far ?_ af.out _;refine bkR ?_;refine blk_far ?_ af.out _;refine bkR ?_;refine blk_far ?_ af.out _;refine bkR ?_;exact D.out⟩,⟨by refine bkR ?_;refine blk_put (cs:= #[.int .i64 O,.int .i64 (wrap64 (J+1)),.slice none 0 0]) ?_ 2 _ rfl;refine bkR ?_;refine blk_put (cs:= #[.int .i64 O,.int .i64 0,.slice none 0 0]) ?_ 1 _ rfl;refine bkR ?_;refine blk_put (cs:= #[.int .i64 0,.int .i64 0,.slice none 0 0]) ?_ 0 _ rfl;refine bkR ?_;exact G.out⟩,⟨hbA HB.out⟩⟩
   case round=>
    clear H'
    (try clear c1);(try clear p2 p2);(try clear c4);(try clear c6);(try clear p6);(try clear c7);(try clear cy);(try clear gb);(try clear ba bb bc bd be bf);(try clear b8 b9 ca cf cg ch);(try clear cb cd ce ci cj ck);(try clear bs bt bu bz b0 b1);(try clear bv bw bx b2 b3 b4)
    obtain⟨X,I,u443002,rfl,HA,eo,HO_443002,D,G,HB⟩:=hrel
    cases gk with
    |zero=>exact absurd HA.out (by simp[recoupref04_Solve.l0])
    |succ k2=>
     have H:=HA.out;clear HA;simp only[recoupref04_Solve.l0]at H;by_cases ct:X<O
     ·rw[if_pos ct]at H
      have c17b0:decide (X<O)=true:=decide_eq_true ct;clear ct;obtain⟨⟨aj,fz⟩,f3,H⟩:=bindO H
      (try dsimp only at H)
      by_cases dg:I.length+aj.length<140737488355328
      case neg=>rw[if_neg dg]at H;exact absurd H zd
      rw[if_pos dg]at H
      have dd:=aK dg;clear dg;obtain⟨a5,bi⟩: ∃y_:List Int,y_=(I++aj):=⟨_,rfl⟩
      replace H:(if 0<=X then(if X<(l1.length:Int)then((some (([rd l1 X]:List Int):List Int)).bind fun aw=>(if a5.length+aw.length<140737488355328 then(recoupref04_Solve.l0 k2 l1 (wrap64 (X+1)) O J Z O (wrap64 (J+1)) (a5++aw))else(none)))else(none))else(none))=some (r1,r2,r3):=zH bi H
      have de:=aK bi;clear bi;by_cases dh:0<=X
      case neg=>rw[if_neg dh]at H;exact absurd H zd
      rw[if_pos dh]at H
      have c20b0:decide (0<=X)=true:=decide_eq_true dh;clear dh;by_cases di:X<(l1.length:Int)
      case neg=>rw[if_neg di]at H;exact absurd H zd
      rw[if_pos di]at H
      have c21b0:decide (X<(l1.length:Int))=true:=decide_eq_true di;clear di;obtain⟨aw,bj⟩: ∃y_:List Int,y_=(([rd l1 X]:List Int)):=⟨_,rfl⟩
      replace H:(if a5.length+aw.length<140737488355328 then(recoupref04_Solve.l0 k2 l1 (wrap64 (X+1)) O J Z O (wrap64 (J+1)) (a5++aw))else(none))=some (r1,r2,r3):=zH bj H
      have br:=aK bj;clear bj;by_cases dj:a5.length+aw.length<140737488355328
      case neg=>rw[if_neg dj]at H;exact absurd H zd
      rw[if_pos dj]at H
      have e9:=aK dj;clear dj;obtain⟨cx,bk⟩: ∃y_:List Int,y_=(a5++aw):=⟨_,rfl⟩
      replace H:(recoupref04_Solve.l0 k2 l1 (wrap64 (X+1)) O J Z O (wrap64 (J+1)) cx)=some (r1,r2,r3):=zH bk H
      have fa:=aK bk;clear bk;have H':=aK H;clear H;have gf:=af.out;have gl:=aq.out;obtain⟨dn,dp,dq,d4,d5,d6⟩:=cell3 D
      try go_wp2_with (first|((with_reducible refine gC 21 rfl ?_);refine cG (some 40) Tryd.func21 #[.agg #[.int .i64 O,.int .i64 J,.slice ah Z.length ai],.int .i64 X] ?_;(with_reducible refine(recoupref03_Row.calls k2 O J _ _ Z X aj fz _ ?side1 ?side2 f3.out).mono ?_);(case side1=>exact kcB co HB);(case side2=>exact cn.out);rintro e gs ⟨g8,rfl,da,hb⟩;refine⟨_,rfl,?_⟩;have U:=aK (R_lower (R_new' da (R_lt (kdA HO_443002.out))) (below_size (hbA HB.out)));replace HO_443002:=aK (R_elder' (kdA HO_443002.out) (R_base da) hb);replace D:=bkB D hb;replace G:=bkB G hb;replace HB:=hbB HB hb;(try clear hb);(try clear da);obtain⟨au,av,fj⟩:=R_slice HO_443002.out;subst fj;obtain⟨ax,ay,fk⟩:=R_slice U.out;subst fk))
      replace HO_443002:=aK (R_drew HO_443002.out);replace U:=aK (R_drew U.out);replace D:=aK (blk_drew D.out);replace G:=aK (blk_drew G.out);replace HB:=aK (below_drew1 HB.out);have cv:0<=(X:Int):=of_decide_eq_true asE;have cw:X<(l1.length:Int):=of_decide_eq_true asE;obtain⟨cr,fh,an⟩:=Kd.at_int ga.out X cv cw;have ac:=an
      cases fh
      replace an:=(HB.out.cell (World.block_lt_of_cell? w _ an)).trans an;replace cv:=eq_true cv;replace cw:=eq_true cw;refine start_ (n:=12) (S:=fun w'=>w'.cell? ⟨ab,0,none⟩=some (.int .i64 O)/\w'.cell? ⟨ab,1,none⟩=some (.int .i64 (wrap64 (J+1)))/\w'.cell? ⟨ab,2,none⟩=some (.slice au I.length av)/\w'.cell? (cr.add (X).toNat)=some (.int .u8 (rd l1 X))) (ds:= [11]) (.replicate 12 false) zc rfl rfl (z3k G ((HB.out.cell (World.block_lt_of_cell? w _ ac)).trans ac)) (fun hHeld=>?_);refine with_tabW recoupref04_Solve.tab8 recoupref04_Solve.bits8 (fun HT_ HW_=>?_);generalize gs.drew=iq at HO_443002 U D G HB an hHeld⊢;refine pu 0 (some 43) (mB 12 1) HT_ ?_;refine pu 2 (some 45) (mB 12 5) HT_ ?_;refine pu 4 (some 47) (mB 12 21) HT_ ?_;refine pu 5 (some 48) (mB 12 53) HT_ ?_;refine pu 6 (some 49) (mB 12 117) HT_ ?_;refine tk4 1 (some 44) (mB 12 119) HT_ HW_ hHeld ?_;refine tk4 7 (some 50) (mB 12 247) HT_ HW_ hHeld ?_;refine join_ (σ:=Value×Value) 3 (mB 12 511) (fun s_=> [(46,s_.1),(51,s_.2)]) (fun s_ w'=>(w'.cell? ⟨ab,0,none⟩=some (.int .i64 O)/\w'.cell? ⟨ab,1,none⟩=some (.int .i64 (wrap64 (J+1)))/\w'.cell? ⟨ab,2,none⟩=some (.slice au I.length av)/\w'.cell? (cr.add (X).toNat)=some (.int .u8 (rd l1 X)))/\(Kd.R (Kd.int .u8) 5 w' w.heap.size (fun k_=>some k_≠(s_.1:Value).ownBlock/\some k_≠(s_.2:Value).ownBlock) (.slice ax aj.length ay) aj)/\(Kd.R (Kd.int .u8) 5 w' w.heap.size (fun k_=>some k_≠(.slice ax aj.length ay:Value).ownBlock/\some k_≠(s_.2:Value).ownBlock) s_.1 a5)/\(Kd.R (Kd.int .u8) 5 w' w.heap.size (fun k_=>some k_≠(.slice ax aj.length ay:Value).ownBlock/\some k_≠(s_.1:Value).ownBlock) s_.2 aw)/\(w'.heap[ae]? =some (.cells #[.int .i64 O,.int .i64 J,.slice ah Z.length ai] 24 (0,0)))/\(w'.heap[ab]? =some (.cells #[.int .i64 O,.int .i64 (wrap64 (J+1)),.slice au I.length av] 24 (0,0)))/\(Below w.heap.size w w')) ?_ ?_;rotate_left
      ·intro hCont;refine two_ (i:=3) (j:=8) (Ni:=some 46) (Nj:=some 51) (mB 12 255) (mB 12 503) rfl rfl rfl rfl (two_of HT_.out zc) zb zb (fun K hK=>?_) (fun K hK=>?_)
       ·skip
        refine Kd.R_append_rows_step (Kd.int .u8) (w0:=w) w.heap.size ze (.tmp 44) (.tmp 45) 22 5 (.int .u8 0) 1 rfl Tryd.underlying22 info5 rfl zb za (.slice au I.length av) I aj _ _ _ (fun k_=>some k_≠(.slice ax aj.length ay:Value).ownBlock) (fun _=>False) rfl rfl ?aO ?aR (fun _ _ h=>h) (fun _ h=>h.elim) ?aF ?aB ?aS ?aL ?_
        (case aR=>exact kcA (R_reads' U.out).2.2)
        (case aB=>exact(hbA HB.out))
        (case aF=>exact(fun k_ hk=>Kd.fresh' (R_lt (kdA U.out)) k_ hk))
        (case aO=>exact(by(with_reducible repeat(first|apply R_alloc|apply R_drewN|apply R_drew));exact R_mono HO_443002.out (fun _ hk=>hk.2)))
        (case aS=>exact(below_size (hbA HB.out)))
        (case aL=>have:=dd.out;omega)
        intro a6 gt ho hb hg hat;rw[<-de.out]at ho
        have n0_:=aK (blk_grown (g:=ae) (o:= .cells #[.int .i64 O,.int .i64 J,.slice ah Z.length ai] 24 (0,0)) (bkA D.out) hg (R_ne HO_443002.out D.out zb));have n1_:=aK (blk_grown (g:=ab) (o:= .cells #[.int .i64 O,.int .i64 (wrap64 (J+1)),.slice au I.length av] 24 (0,0)) (bkA G.out) hg (R_ne HO_443002.out G.out zb));have n2_:=aK (R_after (ok:=(fun _=>True)) (kdA U.out) hg hat);have n3_:=aK (hb);have n4_:=aK (ho);clear D;clear G;clear U;clear HB;clear HO_443002;have D:=n0_;have G:=n1_;have U:=n2_;have HB:=n3_;have ak:=n4_;clear n0_ n1_ n2_ n3_ n4_;clear ho hb hg hat;refine hK.out _ _ (z3k G ((HB.out.cell (World.block_lt_of_cell? w _ ac)).trans ac)) (fun hHeld=>?_);clear hK K;refine znm (some 46) ?_;refine zoh 8 (some 51) (mB 12 511) HT_ fun K hK=>?_;refine Kd.R_lit_step (Kd.int .u8) _ 5 ?hg (N:=51) ?hd (xs:=([rd l1 X]:List Int)) (inner:= [.int .u8 (rd l1 X)]) (ok:=fun _=>True) (okp:=fun _=>True) ?hr ?hp (fun _ hk=>hk) trivial (Below.refl _ _) (Nat.le_refl _) zd ?_;(case hd=>rfl);(case hg=>rfl);(case hr=>first|(go_simp;done)|(go_simp;rfl));(case hp=>exact(Reps.one (show Kd.M (Kd.int .u8) _ _ _ (rd l1 X) [.int .u8 (rd l1 X)]from rfl) (Reps.none _ _)))
        intro a4 ir bh hb hg_ hnew_;clear hg_ hnew_
        (first|rw[<-br.out]at bh|(simp only[Int.reduceToNat]at bh;rw[<-br.out]at bh))
        have ag:=aK (R_lower (R_new' (R_new' bh (R_lt (kdA U.out))) (R_lt (kdA ak.out))) (below_size (hbA HB.out)));replace U:=aK (R_elder' (kdA U.out) (R_base bh) hb);replace ak:=aK (R_elder' (kdA ak.out) (R_base bh) hb);replace D:=bkB D hb;replace G:=bkB G hb;replace HB:=hbB HB hb;clear hb bh;refine hK.out _ _ (z3k G ((HB.out.cell (World.block_lt_of_cell? w _ ac)).trans ac)) (fun hHeld=>?_);clear hK K;refine znm (some 51) ?_;exact norm_ zm (hCont (a6,a4) _ ⟨hHeld,(by(with_reducible repeat(first|apply R_alloc|apply R_drewN|apply R_drew));exact R_mono U.out (fun _ hk=>⟨hk.1.2,hk.2⟩)),(kdA ak.out),(by(with_reducible repeat(first|apply R_alloc|apply R_drewN|apply R_drew));exact R_mono ag.out (fun _ hk=>⟨hk.1.2,hk.2⟩)),(bkA D.out),(bkA G.out),(hbA HB.out)⟩)
       ·skip
        refine Kd.R_lit_step (Kd.int .u8) _ 5 ?hg (N:=51) ?hd (xs:=([rd l1 X]:List Int)) (inner:= [.int .u8 (rd l1 X)]) (ok:=fun _=>True) (okp:=fun _=>True) ?hr ?hp (fun _ hk=>hk) trivial (Below.refl _ _) (Nat.le_refl _) zd ?_;(case hd=>rfl);(case hg=>rfl);(case hr=>first|(go_simp;done)|(go_simp;rfl));(case hp=>exact(Reps.one (show Kd.M (Kd.int .u8) _ _ _ (rd l1 X) [.int .u8 (rd l1 X)]from rfl) (Reps.none _ _)))
        intro a4 gt bg hb hg_ hnew_;clear hg_ hnew_
        (first|rw[<-br.out]at bg|(simp only[Int.reduceToNat]at bg;rw[<-br.out]at bg))
        have ag:=aK (R_lower (R_new' (R_new' bg (R_lt (kdA HO_443002.out))) (R_lt (kdA U.out))) (below_size (hbA HB.out)));replace HO_443002:=aK (R_elder' (kdA HO_443002.out) (R_base bg) hb);replace U:=aK (R_elder' (kdA U.out) (R_base bg) hb);replace D:=bkB D hb;replace G:=bkB G hb;replace HB:=hbB HB hb;clear hb bg;refine hK.out _ _ (z3k G ((HB.out.cell (World.block_lt_of_cell? w _ ac)).trans ac)) (fun hHeld=>?_);clear hK K;refine znm (some 51) ?_;refine zoh 3 (some 46) (mB 12 511) HT_ fun K hK=>?_;refine Kd.R_append_rows_step (Kd.int .u8) (w0:=w) w.heap.size ze (.tmp 44) (.tmp 45) 22 5 (.int .u8 0) 1 rfl Tryd.underlying22 info5 rfl zb za (.slice au I.length av) I aj _ _ _ (fun k_=>some k_≠(.slice ax aj.length ay:Value).ownBlock/\some k_≠(a4:Value).ownBlock) (fun _=>False) rfl rfl ?aO ?aR (fun _ _ h=>h) (fun _ h=>h.elim) ?aF ?aB ?aS ?aL ?_
        (case aR=>exact kcA (R_reads' U.out).2.2)
        (case aB=>exact(hbA HB.out))
        (case aF=>exact(fun k_ hk=>⟨Kd.fresh' (R_lt (kdA U.out)) k_ hk,Kd.fresh' (R_lt (kdA ag.out)) k_ hk⟩))
        (case aO=>exact(by(with_reducible repeat(first|apply R_alloc|apply R_drewN|apply R_drew));exact R_mono HO_443002.out (fun _ hk=>⟨hk.1.2,hk.2⟩)))
        (case aS=>exact(below_size (hbA HB.out)))
        (case aL=>have:=dd.out;omega)
        intro a6 it ho hb hg hat;rw[<-de.out]at ho
        have n0_:=aK (blk_grown (g:=ae) (o:= .cells #[.int .i64 O,.int .i64 J,.slice ah Z.length ai] 24 (0,0)) (bkA D.out) hg (R_ne HO_443002.out D.out zb));have n1_:=aK (blk_grown (g:=ab) (o:= .cells #[.int .i64 O,.int .i64 (wrap64 (J+1)),.slice au I.length av] 24 (0,0)) (bkA G.out) hg (R_ne HO_443002.out G.out zb));have n2_:=aK (R_after (ok:=(fun k_=>some k_≠(a4:Value).ownBlock)) (by(with_reducible repeat(first|apply R_alloc|apply R_drewN|apply R_drew));exact R_mono U.out (fun _ hk=>⟨hk.2,hk.1.2⟩)) hg hat);have n3_:=aK (R_after (ok:=(fun k_=>some k_≠(.slice ax aj.length ay:Value).ownBlock)) (by(with_reducible repeat(first|apply R_alloc|apply R_drewN|apply R_drew));exact R_mono ag.out (fun _ hk=>⟨hk.2,hk.1.2⟩)) hg hat);have n4_:=aK (hb);have n5_:=aK (ho);clear D;clear G;clear U;clear ag;clear HB;clear HO_443002;have D:=n0_;have G:=n1_;have U:=n2_;have ag:=n3_;have HB:=n4_;have ak:=n5_;clear n0_ n1_ n2_ n3_ n4_ n5_;clear ho hb hg hat;refine hK.out _ _ (z3k G ((HB.out.cell (World.block_lt_of_cell? w _ ac)).trans ac)) (fun hHeld=>?_);clear hK K;refine znm (some 46) ?_;exact norm_ zm (hCont (a6,a4) _ ⟨hHeld,(by(with_reducible repeat(first|apply R_alloc|apply R_drewN|apply R_drew));exact R_mono U.out (fun _ hk=>⟨hk.2,hk.1⟩)),(kdA ak.out),(kdA ag.out),(bkA D.out),(bkA G.out),(hbA HB.out)⟩)
      rintro⟨a6,a4⟩ bp ⟨hS_,h0_,h1_,h2_,h3_,h4_,h5_⟩;have n0_:Aside0 (Kd.R (Kd.int .u8) 5 bp w.heap.size (fun k_=>some k_≠(a6:Value).ownBlock/\some k_≠(a4:Value).ownBlock) (.slice ax aj.length ay) aj):=⟨h0_⟩
      have n1_:Aside0 (Kd.R (Kd.int .u8) 5 bp w.heap.size (fun k_=>some k_≠(.slice ax aj.length ay:Value).ownBlock/\some k_≠(a4:Value).ownBlock) a6 a5):=⟨h1_⟩
      have n2_:Aside0 (Kd.R (Kd.int .u8) 5 bp w.heap.size (fun k_=>some k_≠(.slice ax aj.length ay:Value).ownBlock/\some k_≠(a6:Value).ownBlock) a4 aw):=⟨h2_⟩
      have n3_:Aside0 (bp.heap[ae]? =some (.cells #[.int .i64 O,.int .i64 J,.slice ah Z.length ai] 24 (0,0))):=⟨h3_⟩
      have n4_:Aside0 (bp.heap[ab]? =some (.cells #[.int .i64 O,.int .i64 (wrap64 (J+1)),.slice au I.length av] 24 (0,0))):=⟨h4_⟩
      have n5_:Aside0 (Below w.heap.size w bp):=⟨h5_⟩
      clear HO_443002;clear U;clear D;clear G;clear HB;clear h0_ h1_ h2_ h3_ h4_ h5_;have U:=n0_;have ak:=n1_;have ag:=n2_;have D:=n3_;have G:=n4_;have HB:=n5_;clear n0_ n1_ n2_ n3_ n4_ n5_;have hHeld:bp.cell? ⟨ab,0,none⟩=some (.int .i64 O)/\bp.cell? ⟨ab,1,none⟩=some (.int .i64 (wrap64 (J+1)))/\bp.cell? ⟨ab,2,none⟩=some (.slice au I.length av)/\bp.cell? (cr.add (X).toNat)=some (.int .u8 (rd l1 X)):=hS_;obtain⟨et,ew,ey⟩:=R_slice ag.out
      (first|subst ey|(injection ey with f1_ f2_ f3_;have f4_:=f1_.symm;have f5_:=f3_.symm;clear f1_ f2_ f3_;subst f4_;subst f5_))
      refine znq ?_;refine zoh 9 (some 52) (mB 12 1023) HT_ fun K hK=>?_;refine Kd.R_append_rows_step (Kd.int .u8) (w0:=w) w.heap.size ze (.tmp 46) (.tmp 51) 22 5 (.int .u8 0) 1 rfl Tryd.underlying22 info5 rfl zb za a6 a5 aw _ _ _ (fun k_=>some k_≠(.slice ax aj.length ay:Value).ownBlock/\some k_≠(.slice et aw.length ew:Value).ownBlock) (fun _=>False) rfl rfl ?aO ?aR (fun _ _ h=>h) (fun _ h=>h.elim) ?aF ?aB ?aS ?aL ?_
      (case aR=>exact kcA (R_reads' ag.out).2.2)
      (case aB=>exact(hbA HB.out))
      (case aF=>exact(fun k_ hk=>⟨Kd.fresh' (R_lt (kdA U.out)) k_ hk,Kd.fresh' (R_lt (kdA ag.out)) k_ hk⟩))
      (case aO=>exact(kdA ak.out))
      (case aS=>exact(below_size (hbA HB.out)))
      (case aL=>have:=e9.out;omega)
      intro g9 gu ho hb hg hat;rw[<-fa.out]at ho
      have n0_:=aK (blk_grown (g:=ae) (o:= .cells #[.int .i64 O,.int .i64 J,.slice ah Z.length ai] 24 (0,0)) (bkA D.out) hg (R_ne ak.out D.out zb));have n1_:=aK (blk_grown (g:=ab) (o:= .cells #[.int .i64 O,.int .i64 (wrap64 (J+1)),.slice au I.length av] 24 (0,0)) (bkA G.out) hg (R_ne ak.out G.out zb));have n2_:=aK (R_after (ok:=(fun k_=>some k_≠(.slice et aw.length ew:Value).ownBlock)) (by(with_reducible repeat(first|apply R_alloc|apply R_drewN|apply R_drew));exact R_mono U.out (fun _ hk=>⟨hk.2,hk.1⟩)) hg hat);have n3_:=aK (R_after (ok:=(fun k_=>some k_≠(.slice ax aj.length ay:Value).ownBlock)) (kdA ag.out) hg hat);have n4_:=aK (hb);have n5_:=aK (ho);clear D;clear G;clear U;clear ag;clear HB;clear ak;have D:=n0_;have G:=n1_;have U:=n2_;have ag:=n3_;have HB:=n4_;have db:=n5_;clear n0_ n1_ n2_ n3_ n4_ n5_;clear ho hb hg hat;obtain⟨eu,ex,ez⟩:=R_slice db.out
      (first|subst ez|(injection ez with f1_ f2_ f3_;have f4_:=f1_.symm;have f5_:=f3_.symm;clear f1_ f2_ f3_;subst f4_;subst f5_))
      refine hK.out _ _ (z3k G ((HB.out.cell (World.block_lt_of_cell? w _ ac)).trans ac)) (fun hHeld=>?_);clear hK K;refine znm (some 52) ?_;refine pu 10 (some 53) (mB 12 2047) HT_ ?_;refine zlh 11 (none) (mB 12 4095) HT_ fun K hK=>?_;have g5:gu.cell? ⟨ab,2,none⟩=some (.slice au I.length av):=(blk_cell G.out 2).trans rfl;have gc:=blk_frozen G.out 2;have fv:=af.out;have fu:=aq.out;refine zsk ?_;refine hK.out _ _ ?_;clear hK K;refine done_ (done_of HT_.out zc) ?_
      try go_wp2
      go_roundg k2
      case measure=>have:=en.out;have:=eo.out;omega
      case rel=>exact⟨(wrap64 (X+1)),(cx),(.slice eu cx.length ex),rsE,H',⟨by have:=en.out;have:=eo.out;omega⟩,⟨by(with_reducible repeat(first|apply R_alloc|apply R_drewN|apply R_drew));exact R_mono (R_far (p:=⟨ab,2,none⟩) (R_types db.out G.out zb) (fun _ hk=>hk.2) (.slice eu cx.length ex)) (fun _ hk=>trivial)⟩,⟨by refine bkR ?_;refine blk_far ?_ af.out _;refine bkR ?_;exact D.out⟩,⟨by refine bkR ?_;refine blk_put (cs:= #[.int .i64 O,.int .i64 (wrap64 (J+1)),.slice au I.length av]) ?_ 2 _ rfl;refine bkR ?_;exact G.out⟩,⟨hbA HB.out⟩⟩
     rw[if_neg ct]at H
     have c17b0:decide (X<O)=false:=decide_eq_false ct;clear ct;obtain⟨⟨am,ao,al,aa⟩,f4,H⟩:=bindO H
     (try dsimp only at H)
     by_cases cz:0<=J
     case neg=>rw[if_neg cz]at H;exact absurd H zd
     rw[if_pos cz]at H
     have c38b0:=eq_true cz;have c38b1:decide (0<=J)=true:=decide_eq_true cz;clear cz;by_cases c5:(J:Int).toNat<=281474976710656
     case neg=>rw[if_neg c5]at H;exact absurd H zd
     rw[if_pos c5]at H
     have c39b0:=eq_true c5;have c39b1:decide ((J:Int).toNat<=281474976710656)=true:=decide_eq_true c5;clear c5;obtain⟨e3,bl⟩: ∃y_:List Int,y_=(List.replicate (J:Int).toNat 0):=⟨_,rfl⟩
     replace H:(recoupref04_Solve.l1 k2 aa e3 0 O J Z am ao al)=some (r1,r2,r3):=zH bl H
     have df:=aK bl;clear bl;have H':=aK H;clear H;have gg:=af.out;have gm:=aq.out;obtain⟨dr,dt,du,d7,d8,d9⟩:=cell3 D;obtain⟨dv,dw,dx,ea,eb,ec⟩:=cell3 G;obtain⟨b6,b7,fl⟩:=R_slice HO_443002.out;subst fl
     go_wp2_with (first|((with_reducible refine gC 95 rfl ?_);refine cG (some 56) Tryd.func95 #[.agg #[.int .i64 O,.int .i64 (wrap64 (J+1)),.slice b6 I.length b7]] ?_;(with_reducible refine(recoupref04_wide.calls k2 O (wrap64 (J+1)) (fun k_=>some k_=(.slice b6 I.length b7:Value).ownBlock) (.slice b6 I.length b7) I am ao al aa w _ ?side1 ?side2 f4.out).mono ?_);(case side1=>repeat(first|(with_reducible first|exact HB.out|apply below_alloc|apply pw_below_drewN|apply below_drew1|refine below_set ?_ e5.out|refine below_set ?_ e6.out)|exact HB.out));(case side2=>exact Kd.R_tight rfl HO_443002.out);rintro e iu ⟨ia,f0,rfl,da,fw,hb,hkp⟩;refine⟨_,rfl,?_⟩;have n0_:=aK (blk_kept (bkA D.out) hkp (fun hs_=>(fun e_=>(R_ne HO_443002.out D.out zb) e_) hs_));have n1_:=aK (blk_kept (bkA G.out) hkp (fun hs_=>(fun e_=>(R_ne HO_443002.out G.out zb) e_) hs_));have n2_:=aK (R_mono (ok':=fun k_=>True) da (fun k_ hk_=>trivial));have n3_:=aK (R_mono (ok':=fun k_=>True) fw (fun k_ hk_=>trivial));have n4_:=aK (hb);clear D;clear G;clear HB;clear HO_443002;have D:=n0_;have G:=n1_;have a0:=n2_;have a7:=n3_;have HB:=n4_;clear n0_ n1_ n2_ n3_ n4_;(try clear hb);(try clear hkp);(try clear da);(try clear fw))|((with_reducible refine gD 11 rfl ?_);(try(refine gate_guard ze ?_;dsimp only));refine bE 11 #[.int .i64 0,.int .i64 0,.slice none 0 0] 24 ?_;intro a9 hg iv hbox hb;replace a0:=kdB a0 hb;replace a7:=kdB a7 hb;have Y:=aK (hbox);have f9:=hbS HB hg;have f6:=hbS HB hg;replace HB:=hbB HB hb;have ap:=neL D hg;have cp:=neG D hg;replace D:=bkB D hb;have ar:=neL G hg;have cq:=neG G hg;replace G:=bkB G hb;clear hb hbox hg;have gh:=cp.out;have gn:=ap.out;have gi:=cq.out;have gp:=ar.out;obtain⟨dy,dz,d0,ed,ee,ef⟩:=cell3 Y;obtain⟨a2,a3,fm⟩:=R_slice a0.out;subst fm;obtain⟨d1,d2,d3,eg,eh,ei⟩:=cell3 D)|((with_reducible refine gate_dst (N:=61) rfl ?_);(try(refine gate_guard ze ?_;dsimp only));refine Kd.R_make (Kd.int .u8) _ 5 rfl (N:=61) rfl 22 _ _ rfl J rfl rfl Tryd.underlying22 (.int .u8 0) 1 info5 rfl zb za 0 (ok:=fun _=>True) (okp:=fun _=>True) rfl (fun _ hk=>hk) trivial (of_decide_eq_true asE) (Nat.le_trans (Nat.mul_le_mul_right _ (of_decide_eq_true asE:J.toNat<=281474976710656)) za) (Below.refl _ _) (Nat.le_refl _) ?_;intro e2 iw bq hb hg_ hnew_;clear hg_ hnew_;(first|rw[<-df.out]at bq|(simp only[Int.reduceToNat]at bq;rw[<-df.out]at bq));replace a7:=aK (R_below (by(with_reducible repeat(first|apply R_alloc|apply R_drewN|apply R_drew));exact(zF a7.out Y.out  (.int .i64 am)  (.int .i64 ao)  (.slice a2 al.length a3))) hb);have e8:=aK (R_lower (R_new' bq (R_lt (by(with_reducible repeat(first|apply R_alloc|apply R_drewN|apply R_drew));exact(zF a0.out Y.out  (.int .i64 am)  (.int .i64 ao)  (.slice a2 al.length a3))))) (below_size (hbA HB.out)));replace a0:=aK (R_elder' (by(with_reducible repeat(first|apply R_alloc|apply R_drewN|apply R_drew));exact(zF a0.out Y.out  (.int .i64 am)  (.int .i64 ao)  (.slice a2 al.length a3))) (R_base bq) hb);replace D:=aK (blk_below (g:=ae) (o:= .cells #[.int .i64 O,.int .i64 J,.slice ah Z.length ai] 24 (0,0)) (by refine bkR ?_;refine blk_far ?_ ap.out _;refine bkR ?_;refine blk_far ?_ ap.out _;refine bkR ?_;refine blk_far ?_ ap.out _;refine bkR ?_;exact D.out) hb);replace G:=aK (blk_below (g:=ab) (o:= .cells #[.int .i64 O,.int .i64 (wrap64 (J+1)),.slice b6 I.length b7] 24 (0,0)) (by refine bkR ?_;refine blk_far ?_ ar.out _;refine bkR ?_;refine blk_far ?_ ar.out _;refine bkR ?_;refine blk_far ?_ ar.out _;refine bkR ?_;exact G.out) hb);replace Y:=aK (blk_below (g:=a9) (o:= .cells #[.int .i64 am,.int .i64 ao,.slice a2 al.length a3] 24 (0,0)) (by refine bkR ?_;refine blk_put (cs:= #[.int .i64 am,.int .i64 ao,.slice none 0 0]) ?_ 2 _ rfl;refine bkR ?_;refine blk_put (cs:= #[.int .i64 am,.int .i64 0,.slice none 0 0]) ?_ 1 _ rfl;refine bkR ?_;refine blk_put (cs:= #[.int .i64 0,.int .i64 0,.slice none 0 0]) ?_ 0 _ rfl;refine bkR ?_;exact Y.out) hb);replace HB:=hbB HB hb;clear hb bq))
     go_loopg [14] k2 (fun kq gq w'=> ∃(a1:List Int) (L:Int),gq= .int .i64 L/\Aside0 (recoupref04_Solve.l1 kq aa a1 L O J Z am ao al=some (r1,r2,r3))/\Aside0 (kq<=k2)/\Aside0 (Kd.R (Kd.int .i64) 3 w' w.heap.size (fun _=>True) f0 aa)/\Aside0 (Kd.R (Kd.int .u8) 5 w' w.heap.size (fun k_=>some k_≠((.slice a2 al.length a3):Value).ownBlock) e2 a1)/\Aside0 (Kd.R (Kd.int .u8) 5 w' w.heap.size (fun k_=>some k_≠(e2:Value).ownBlock) (.slice a2 al.length a3) al)/\Aside0 (w'.heap[ae]? =some (.cells #[.int .i64 O,.int .i64 J,(.slice ah Z.length ai)] 24 (0,0)))/\Aside0 (w'.heap[ab]? =some (.cells #[.int .i64 O,.int .i64 (wrap64 (J+1)),(.slice b6 I.length b7)] 24 (0,0)))/\Aside0 (w'.heap[a9]? =some (.cells #[.int .i64 am,.int .i64 ao,(.slice a2 al.length a3)] 24 (0,0)))/\Aside0 (Below w.heap.size w w'))
     case atStart=>exact⟨(e3),(0),rsE,H',⟨Nat.le_refl _⟩,⟨kdA a7.out⟩,⟨by(with_reducible repeat(first|apply R_alloc|apply R_drewN|apply R_drew));exact R_mono e8.out (fun _ hk=>hk.2)⟩,⟨by(with_reducible repeat(first|apply R_alloc|apply R_drewN|apply R_drew));exact R_mono a0.out (fun _ hk=>hk.2)⟩,⟨bkA D.out⟩,⟨bkA G.out⟩,⟨bkA Y.out⟩,⟨hbA HB.out⟩⟩
     case round=>
      clear H'
      (try clear c1);(try clear c2);(try clear p2 p2);(try clear c3);(try clear c4);(try clear p4);(try clear q4);(try clear il);(try clear c6);(try clear p6 p6);(try clear c7);(try clear c9);(try clear cy);(try clear gb);(try clear ct);(try clear c17b0);(try clear dg);(try clear dh);(try clear c20b0);(try clear di);(try clear c21b0);(try clear dj);(try clear ic);(try clear cz);(try clear c38b0);(try clear c38b1);(try clear c5);(try clear c39b0);(try clear c39b1);(try clear ie);(try clear ig);(try clear p45);(try clear im);(try clear g7);(try clear ii);(try clear ij);(try clear ba bb bc bd be bf);(try clear b8 b9 ca cf cg ch);(try clear cb cd ce ci cj ck);(try clear dn dp dq d4 d5 d6);(try clear dr dt du d7 d8 d9);(try clear dv dw dx ea eb ec);(try clear dy dz d0 ed ee ef);(try clear d1 d2 d3 eg eh ei);(try clear bs bt bu bz b0 b1);(try clear bv bw bx b2 b3 b4);(try clear an);(try clear cv);(try clear cw)
      obtain⟨a1,L,rfl,HA,ff,HO_12,HO_13,HO_466002,D,G,Y,HB⟩:=hrel
      cases gk with
      |zero=>exact absurd HA.out (by simp[recoupref04_Solve.l1])
      |succ k3=>
       have H:=HA.out;clear HA;simp only[recoupref04_Solve.l1]at H;by_cases c8:L<(aa.length:Int)
       case neg=>
        rw[if_neg c8]at H
        have c53b0:decide (L<(aa.length:Int))=false:=decide_eq_false c8;clear c8;obtain⟨rfl,rfl,rfl⟩:=zP3 H;obtain⟨gy,g4,fq⟩:=R_slice HO_12.out;subst fq;go_wp2
        go_ret3
        exact⟨_,rfE,by(with_reducible repeat(first|apply R_alloc|apply R_drewN|apply R_drew));exact R_mono HO_13.out (fun _ hk=>trivial),hbA HB.out⟩
       rw[if_pos c8]at H
       have c53b0:decide (L<(aa.length:Int))=true:=decide_eq_true c8;clear c8;by_cases ep:0<=L
       case neg=>rw[if_neg ep]at H;exact absurd H zd
       rw[if_pos ep]at H
       have c54b0:decide (0<=L)=true:=decide_eq_true ep;clear ep;by_cases cu:(rd aa L)=J
       ·rw[if_pos cu]at H
        have c55b0:((rd aa L)==J)=true:=beq_iff_eq.mpr cu;have c55b1:((rd aa L)!=J)=false:=bne_eq_false_iff_eq.mpr cu;clear cu;obtain⟨rfl,rfl,rfl⟩:=zP3 H;obtain⟨gw,g1,fo⟩:=R_slice HO_12.out;subst fo
        try go_wp2
        replace HO_12:=aK (R_drew HO_12.out);replace HO_13:=aK (R_drew HO_13.out);replace HO_466002:=aK (R_drew HO_466002.out);replace D:=aK (blk_drew D.out);replace G:=aK (blk_drew G.out);replace Y:=aK (blk_drew Y.out);replace HB:=aK (below_drew1 HB.out);have bn:0<=(L:Int):=of_decide_eq_true asE;have bo:L<(aa.length:Int):=of_decide_eq_true asE;obtain⟨a8,dk,az⟩:=Kd.at_int (R_reads' HO_12.out).2.2 L bn bo
        cases dk
        replace bn:=eq_true bn;replace bo:=eq_true bo;refine start_ (n:=7) (S:=fun w'=>w'.cell? ⟨ae,0,none⟩=some (.int .i64 O)/\w'.cell? ⟨ae,1,none⟩=some (.int .i64 J)/\w'.cell? ⟨ae,2,none⟩=some (.slice ah Z.length ai)/\w'.cell? (a8.add (L).toNat)=some (.int .i64 (rd aa L))) (ds:= []) (.replicate 7 false) zc rfl rfl (z3k D az) (fun hHeld=>?_);generalize wr.drew=ix at HO_12 HO_13 HO_466002 D G Y HB az hHeld⊢;refine zpu 0 (some 68) (mB 7 1) ?_;refine zpu 1 (some 69) (mB 7 3) ?_;refine zpu 2 (some 70) (mB 7 7) ?_;refine zpu 4 (some 72) (mB 7 23) ?_;refine ztk4 3 (some 71) (mB 7 31) hHeld ?_;refine ztk4 5 (some 73) (mB 7 63) hHeld ?_;refine zpu 6 (some 74) (mB 7 127) ?_;refine done_ zc ?_
        try go_wp2
        go_ret3
        exact⟨_,rfE,nilE,hbA HB.out⟩
       rw[if_neg cu]at H
       have c55b0:((rd aa L)==J)=false:=beq_eq_false_iff_ne.mpr cu;have c55b1:((rd aa L)!=J)=true:=bne_iff_ne.mpr cu;obtain⟨cm,f5,H⟩:=bindO H
       (try dsimp only at H)
       by_cases er:0<=(rd aa L)
       case neg=>rw[if_neg er]at H;exact absurd H zd
       rw[if_pos er]at H
       have c59b0:decide (0<=(rd aa L))=true:=decide_eq_true er;clear er;by_cases es:(rd aa L)<(a1.length:Int)
       case neg=>rw[if_neg es]at H;exact absurd H zd
       rw[if_pos es]at H
       have c60b0:decide ((rd aa L)<(a1.length:Int))=true:=decide_eq_true es;clear es;obtain⟨e4,bm⟩: ∃y_:List Int,y_=(a1.set ((rd aa L):Int).toNat cm):=⟨_,rfl⟩
       replace H:(recoupref04_Solve.l1 k3 aa e4 (wrap64 (L+1)) O J Z am ao al)=some (r1,r2,r3):=zH bm H
       have fb:=aK bm;clear bm;have H':=aK H;clear H;obtain⟨gx,g3,fp⟩:=R_slice HO_12.out;subst fp
       try go_wp2
       replace HO_12:=aK (R_drew HO_12.out);replace HO_13:=aK (R_drew HO_13.out);replace HO_466002:=aK (R_drew HO_466002.out);replace D:=aK (blk_drew D.out);replace G:=aK (blk_drew G.out);replace Y:=aK (blk_drew Y.out);replace HB:=aK (below_drew1 HB.out);have bn:0<=(L:Int):=of_decide_eq_true asE;have bo:L<(aa.length:Int):=of_decide_eq_true asE;obtain⟨a8,dk,az⟩:=Kd.at_int (R_reads' HO_12.out).2.2 L bn bo
       cases dk
       replace bn:=eq_true bn;replace bo:=eq_true bo;refine start_ (n:=7) (S:=fun w'=>w'.cell? ⟨ae,0,none⟩=some (.int .i64 O)/\w'.cell? ⟨ae,1,none⟩=some (.int .i64 J)/\w'.cell? ⟨ae,2,none⟩=some (.slice ah Z.length ai)/\w'.cell? (a8.add (L).toNat)=some (.int .i64 (rd aa L))) (ds:= []) (.replicate 7 false) zc rfl rfl (z3k D az) (fun hHeld=>?_);generalize wr.drew=gv at HO_12 HO_13 HO_466002 D G Y HB az hHeld⊢;refine zpu 0 (some 68) (mB 7 1) ?_;refine zpu 1 (some 69) (mB 7 3) ?_;refine zpu 2 (some 70) (mB 7 7) ?_;refine zpu 4 (some 72) (mB 7 23) ?_;refine ztk4 3 (some 71) (mB 7 31) hHeld ?_;refine ztk4 5 (some 73) (mB 7 63) hHeld ?_;refine zpu 6 (some 74) (mB 7 127) ?_;refine done_ zc ?_
       try go_wp2
       replace HO_12:=aK (R_drew HO_12.out);replace HO_13:=aK (R_drew HO_13.out);replace HO_466002:=aK (R_drew HO_466002.out);replace D:=aK (blk_drew D.out);replace G:=aK (blk_drew G.out);replace Y:=aK (blk_drew Y.out);replace HB:=aK (below_drew1 HB.out);have ek:0<=(L:Int):=of_decide_eq_true asE;have el:L<(aa.length:Int):=of_decide_eq_true asE;obtain⟨fc,fi,cl⟩:=Kd.at_int (R_reads' HO_12.out).2.2 L ek el;obtain rfl:a8=fc:=(by injection fi)
       replace ek:=eq_true ek;replace el:=eq_true el;refine start_ (n:=12) (S:=fun w'=>w'.cell? ⟨a9,0,none⟩=some (.int .i64 am)/\w'.cell? ⟨a9,1,none⟩=some (.int .i64 ao)/\w'.cell? ⟨a9,2,none⟩=some (.slice a2 al.length a3)/\w'.cell? ⟨ae,0,none⟩=some (.int .i64 O)/\w'.cell? ⟨ae,1,none⟩=some (.int .i64 J)/\w'.cell? ⟨ae,2,none⟩=some (.slice ah Z.length ai)/\w'.cell? (a8.add (L).toNat)=some (.int .i64 (rd aa L))) (ds:= [11]) (.replicate 12 false) zc rfl rfl (z3k Y (z3k D cl)) (fun hHeld=>?_);refine with_tabW recoupref04_Solve.tab16 recoupref04_Solve.bits16 (fun HT_ HW_=>?_);generalize gv.drew=w64 at HO_12 HO_13 HO_466002 D G Y HB cl hHeld⊢;refine pu 0 (some 75) (mB 12 1) HT_ ?_;refine pu 1 (some 76) (mB 12 3) HT_ ?_;refine pu 2 (some 77) (mB 12 7) HT_ ?_;refine pu 3 (some 78) (mB 12 15) HT_ ?_;refine pu 6 (some 81) (mB 12 79) HT_ ?_;refine pu 7 (some 82) (mB 12 207) HT_ ?_;refine tk7 4 (some 79) (mB 12 223) HT_ HW_ hHeld ?_;refine tk7 5 (some 80) (mB 12 255) HT_ HW_ hHeld ?_;refine tk7 8 (some 83) (mB 12 511) HT_ HW_ hHeld ?_;refine zoh 9 (some 84) (mB 12 1023) HT_ fun K hK=>?_;refine goes_ Tryd.func49 zc rfl #[.agg #[.int .i64 am,.int .i64 ao,.slice a2 al.length a3],.int .i64 L,.int .i64 J] ze rfl rfl (by(try simp only[List.map_toArray,List.map_cons,List.map_nil]);first|done|rfl|(simp only[List.length_drop,List.length_take];rfl)) ?_;with_reducible refine(recoupref03_At.calls am ao _ _ al L J cm _ ?side1 ?side2 f5.out).mono ?_
       (case side1=>exact kcA (R_reads' HO_466002.out).2.2)
       (case side2=>exact(R_reads' HO_466002.out).2.1)
       rintro e iy ⟨rfl,hb⟩;have HS6_:=(hb.cell (World.block_lt_of_cell? _ _ (hHeld.2.2.2.2.2.2))).trans (hHeld.2.2.2.2.2.2);refine⟨_,rfl,?_⟩;replace HO_12:=kdB HO_12 hb;replace HO_13:=kdB HO_13 hb;replace HO_466002:=kdB HO_466002 hb;replace D:=bkB D hb;replace G:=bkB G hb;replace Y:=bkB Y hb;replace HB:=hbB HB hb
       (try clear hb)
       (try clear ik)
       (try clear hk)
       (try clear hi)
       have p61:0<=((rd aa L):Int):=of_decide_eq_true asE;have fd:((rd aa L):Int)<((a1.length:Int):Int):=of_decide_eq_true asE;obtain⟨dl,g2,e0,e1,fs,g0,ev⟩:=R_form HO_13.out za
       (first|cases e0|(injection e0 with ea_ en_ ec_;(first|subst ea_|(injection ea_ with ea_;subst ea_));subst ec_;clear en_))
       have gz:=aK e1;have fe:=aK ev;clear e1 fs ev;obtain⟨f2,f1⟩:=R_celln 0 HO_13.out ((rd aa L):Int) p61 fd;replace p61:=eq_true p61;replace fd:=eq_true fd;have dc:=R_putn HO_13.out ((rd aa L):Int) cm;rw[<-fb.out]at dc
       have fg:=aK dc;clear dc;refine hK.out _ _ (z3k Y (z3k D HS6_)) (fun hHeld=>?_);clear hK K;refine znm (some 84) ?_;refine pu 10 (some 85) (mB 12 2047) HT_ ?_;refine zlh 11 (none) (mB 12 4095) HT_ fun K hK=>?_;refine zsk ?_;refine hK.out _ _ ?_;clear hK K;refine done_ (done_of HT_.out zc) ?_
       try go_wp2
       go_roundg k3
       case measure=>have:=en.out;have:=eo.out;have:=ff.out;omega
       case rel=>exact⟨(e4),(wrap64 (L+1)),rsE,H',⟨by have:=en.out;have:=eo.out;have:=ff.out;omega⟩,⟨by(with_reducible repeat(first|apply R_alloc|apply R_drewN|apply R_drew));exact R_mono (R_far (p:=⟨dl,((rd aa L):Int).toNat,none⟩) (R_types HO_12.out fe.out zb) (fun _ hk=>hk.2) (.int .u8 cm)) (fun _ hk=>trivial)⟩,⟨kdA fg.out⟩,⟨by(with_reducible repeat(first|apply R_alloc|apply R_drewN|apply R_drew));exact R_mono (R_far (p:=⟨dl,((rd aa L):Int).toNat,none⟩) (R_mono HO_466002.out (fun k_ hk=>(⟨hk,fun e_=>hk zi⟩:_/\k_≠dl))) (fun _ hk=>hk.2) (.int .u8 cm)) (fun _ hk=>hk.1)⟩,⟨by refine bkR ?_;refine blk_far ?_ (by have h_:=R_ne HO_13.out D.out zb;intro e_;exact h_ zi) _;refine bkR ?_;exact D.out⟩,⟨by refine bkR ?_;refine blk_far ?_ (by have h_:=R_ne HO_13.out G.out zb;intro e_;exact h_ zi) _;refine bkR ?_;exact G.out⟩,⟨by refine bkR ?_;refine blk_far ?_ (by have h_:=R_ne HO_13.out Y.out zb;intro e_;exact h_ zi) _;refine bkR ?_;exact Y.out⟩,⟨hbA HB.out⟩⟩
end Go.Proofs.YtjgcocfnilhggaaDoor.Q
