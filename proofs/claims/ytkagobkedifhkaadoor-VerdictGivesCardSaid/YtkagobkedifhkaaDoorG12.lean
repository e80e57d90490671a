/- Texts of the proof of VerdictGives: what each Go function answers, and what the answers mean; no condition beyond each theorem's own. -/
import Derived.Test.YtkagobkedifhkaaDoorG11
namespace Go.Proofs.YtkagobkedifhkaaDoor.Q
open Go.RowKit Go.Proofs.YtkagobkedifhkaaDoorW.PrintWords Go.Proofs.YtkagobkedifhkaaDoorW.PrintLast Go.Proofs.YtkagobkedifhkaaDoorW.PrintMore
attribute [local go_sem] max2_int min2_int max_two min_two max_three min_three max_four min_four
set_option linter.unusedVariables false
set_option linter.unusedSimpArgs false
def copyL(l:List Int)(i:Int)(s:List Int):List Int:=splice l i.toNat (s.take (l.length-i.toNat))
theorem copyL_cur{w:World}{base:Nat}{ok:Nat→Prop}{g n c:Nat}{L:List Int}(h:Kd.R (Kd.int .u8) 5 w base ok (.slice (some ⟨g,0,none⟩) n c) L): ∃cur:List Value,w.heap[g]? =some (.cells cur.toArray 5 (0,0))∧cur.length=c∧n≤c∧n=L.length∧base≤g∧cur.take n=nums .u8 L∧c≤maxLen:=by
 have ho:=Kd.own_of_R h;rcases ho.2 with⟨h',_⟩|⟨g',cap',cur,h',D,hh,hle,hm,hsz,htk⟩
 ·cases h'
 ·injection h' with h1 h2 h3;injection h1 with h1;injection h1 with h1;subst h1 h2 h3;refine⟨cur.toList,by simpa using hh,by simpa using hsz,hle,rfl,D,?_,hm⟩;simpa[nums,encs]using htk
theorem copyL_splice{w w1:World}{base:Nat}{ok:Nat→Prop}{g n c off:Nat}{L seg:List Int}{cur:List Value}(h:Kd.R (Kd.int .u8) 5 w base ok (.slice (some ⟨g,0,none⟩) n c) L)(hg:w.heap[g]? =some (.cells cur.toArray 5 (0,0)))(hfit:off+seg.length≤L.length)
 (h1:w1.heap[g]? =some (.cells (splice cur off (nums .u8 seg)).toArray 5 (0,0))):Kd.R (Kd.int .u8) 5 w1 base ok (.slice (some ⟨g,0,none⟩) n c) (splice L off seg):=by
 obtain⟨cur',D,I,X,J,O,G,U⟩:=copyL_cur h;rw[hg]at D
 injection D with D;injection D with D;have hce:cur=cur':=by simpa using congrArg Array.toList D
 subst hce;have hls:(splice L off seg).length=n:=by rw[length_splice _ _ _ hfit,J]
 have hlc:(splice cur off (nums .u8 seg)).length=c:=by rw[length_splice _ _ _ (by simp[nums];omega),I]
 refine Kd.R_of_own ⟨by simp[encs],.inr ⟨g,c,(splice cur off (nums .u8 seg)).toArray,by rw[hls],O,h1,by omega,U,by simpa using hlc,?_⟩⟩ h.1;rw[hls,Nat.mul_one];show(splice cur off (nums .u8 seg)).take n=(splice L off seg).map _;unfold splice;rw[List.take_append,List.take_append,List.map_append,List.map_append];have e1:(nums .u8 seg).length=seg.length:=by simp[nums]
 rw[List.take_take,Nat.min_eq_right za,List.length_take,Nat.min_eq_left za,List.take_of_length_le (l:=nums .u8 seg) za,e1,List.take_drop];have e2:off+seg.length+(n-off-seg.length)=n:=by omega
 rw[e2];have e3:cur.take off=(L.take off).map (fun x=>Value.int .u8 x):=by
  have:(cur.take n).take off=(nums .u8 L).take off:=by rw[G]
  rw[List.take_take,Nat.min_eq_left za]at this
  rw[this,nums,List.map_take]
 have e4:(cur.take n).drop (off+seg.length)=(L.drop (off+seg.length)).map (fun x=>Value.int .u8 x):=by
  rw[G,nums,List.map_drop]
 rw[e3,e4];rfl
theorem copyL_event{P:Program}{ops:Array Oper}{rest:List Oper}{o:Oper}{a:Act}{Q:Exit→Act→World→Prop}{W:World}{base:Nat}{ok:Nat→Prop}{g n c:Nat}{L S:List Int}{sp dp:Option Addr}{sc dLen dCap:Nat}{d s:Operand}{dT sT:TypeId}(hgd:o.guard=none)
 (ho:o.op= .call { callee:= .builtin .copy,args:= #[d,s],argTypes:= #[dT,sT] }) (hu:P.underlying dT=some (.slice 5)) (hsz:(P.info? 5).map (·.size)=some 1)
 (h:Kd.R (Kd.int .u8) 5 W base ok (.slice (some ⟨g,0,none⟩) n c) L) (hS:Kd.C (Kd.int .u8) W sp S.length S) (i:Int) (h0:0≤i) (hi:i<(L.length:Int))
 (hd:a.eval d= .slice dp dLen dCap) (hs:a.eval s= .slice sp S.length sc) (hdp:dp=some ⟨g,i.toNat,none⟩) (hdl:dLen=L.length-i.toNat)
 (hk: ∀w' m,W.grownBy w' (some g)→Kd.R (Kd.int .u8) 5 w' base ok (.slice (some ⟨g,0,none⟩) n c) (copyL L i S)→wpList P ops Q rest (a.put o.dst (goInt m)) w'):wpList P ops Q (o::rest) a W:=by
 obtain⟨cur,hg,hcl,hnc,hnL,hbg,htk,hcm⟩:=copyL_cur h;have hseg:(S.take (L.length-i.toNat)).length=Nat.min S.length dLen:=by rw[List.length_take,hdl,Nat.min_comm]
 refine wpList_plain hgd fun K hK=>?_;rcases Nat.eq_zero_or_pos (Nat.min S.length dLen)with e|e
 ·have hrun:=run_copy_none (P:=P) W dT sT o.type 5 dp sp dLen dCap S.length sc hu hsz e;have hz:copyL L i S=L:=by
   have:S.take (L.length-i.toNat)= []:=List.length_eq_zero_iff.1 (hseg.trans e);unfold copyL splice;rw[this];simp
  unfold Oper.wp;simp[execOp,ho,resolve,invoke,builtin,hd,hs,hrun,Result.andThen];exact hK _ _ (hk W 0 ⟨rfl,rfl,rfl,Nat.le_refl _,fun _ _ _=>rfl⟩ (by rw[hz];exact h))
 ·have hSp:0<S.length:=Nat.lt_of_lt_of_le e (Nat.min_le_left _ _);obtain⟨ad,rfl,hc⟩:=hS.2.2 hSp;subst hdp;have hsrc: ∀j v,(nums .u8 (S.take (L.length-i.toNat)))[j]? =some v→W.cell? (ad.add j)=some v:=by
   intro j v hv;unfold nums at hv;rw[List.getElem?_map,Option.map_eq_some_iff]at hv
   obtain⟨x,hx,rfl⟩:=hv;rw[List.getElem?_take]at hx
   split at hx
   ·obtain⟨c1,_,rfl,hcell⟩:=hc j x hx;have:=hcell 0 _ rfl
    rwa [show(Kd.int .u8).sz=1 from rfl,Nat.mul_one,Nat.add_zero]at this
   ·cases hx
  have hfit:i.toNat+(nums .u8 (S.take (L.length-i.toNat))).length≤cur.length:=by
   have:(nums .u8 (S.take (L.length-i.toNat))).length=Nat.min S.length dLen:=by rw[←hseg];simp[nums]
   have h2:Nat.min S.length dLen≤dLen:=Nat.min_le_right _ _;omega
  have hlen:(nums .u8 (S.take (L.length-i.toNat))).length=Nat.min S.length dLen:=by rw[←hseg];simp[nums]
  have hrun:=run_copy_row (P:=P) W dT sT o.type 5 g i.toNat dLen dCap ad S.length sc cur.toArray 5 (nums .u8 (S.take (L.length-i.toNat))) hu hsz hg hlen hsrc (by simpa using hfit) (fun v hv=>by
   unfold nums at hv;obtain⟨x,_,rfl⟩:=List.mem_map.1 hv;rfl)
  unfold Oper.wp;simp[execOp,ho,resolve,invoke,builtin,hd,hs,hrun,Result.andThen];refine hK _ _ (hk _ _ ⟨rfl,rfl,rfl,by simp[World.setRow],fun k _ hk=>setRow_other W g k _ (fun e=>hk (by rw[e]))⟩ ?_);refine copyL_splice h hg (by rw[hseg];have:Nat.min S.length dLen≤dLen:=Nat.min_le_right _ _;omega) ?_;simpa[splice]using setRow_heap W g _ _ 5 _ hg
mutual
def recoupref04_Reduce.l0:Nat→List Int→Int→Int→Int→List Int→Option (Int×Int×List Int×List Int×Int)
 |0,_,_,_,_,_=>none
 |k+1,x6,x7,D,G,I=>if x7<G then(recoupref04_Reduce.j1 k x6 x7 (decide ((x6.length:Int)<D)) D G I)else(recoupref04_Reduce.j1 k x6 x7 false D G I)
def recoupref04_Reduce.j1:Nat→List Int→Int→Bool→Int→Int→List Int→Option (Int×Int×List Int×List Int×Int)
 |0,_,_,_,_,_,_=>none
 |k+1,x6,x7,J,D,G,I=>if J=true then(recoupref04_Reduce.l1 k x6 x7 (x6.length:Int) (x6.length:Int) D G I)else(some (D,G,I,x6,0))
def recoupref04_Reduce.j3:Nat→List Int→Int→Int→Int→Int→Int→List Int→Option (Int×Int×List Int×List Int×Int)
 |0,_,_,_,_,_,_,_=>none
 |k+1,x6,x7,x8,x9,D,G,I=>if x9=D then(recoupref04_Reduce.l0 k x6 (wrap64 (x7+1)) D G I)else(if 0≤D then(if(D:Int).toNat≤35184372088832 then(recoupref04_Reduce.l2 k x6 x7 x8 x9 (List.replicate (D:Int).toNat 0) 0 D G I)else(none))else(none))
def recoupref04_Reduce.l2:Nat→List Int→Int→Int→Int→List Int→Int→Int→Int→List Int→Option (Int×Int×List Int×List Int×Int)
 |0,_,_,_,_,_,_,_,_,_=>none
 |k+1,x6,x7,x8,x9,O,L,G,I,J=>if L<G then(if 0≤L then(if L<(O.length:Int)then(recoupref04_Reduce.l2 k x6 x7 x8 x9 (O.set (L:Int).toNat L) (wrap64 (L+1)) G I J)else(none))else(none))else(if 0≤x8 then(if x8<(O.length:Int)then(if 0≤x9 then(if x9<(O.length:Int)then((recoupref03_Pick.f k G I J ((O.set (x8:Int).toNat x9).set (x9:Int).toNat x8)).bind fun D=>((recoupref03_At.f D.1 D.2.1 D.2.2.1 x8 x7).bind fun Z=>((recoupref01_Inv.f k Z).bind fun X=>((recoupref03_Row.f k D.1 D.2.1 D.2.2.1 x8).bind fun Y=>((recoupref01_Scale.f k X.1 Y.1).bind fun U=>(if 0≤(wrap64 (x8*D.2.1))then(if(wrap64 (x8*D.2.1))<(D.2.2.1.length:Int)then(recoupref04_Reduce.l3 k x6 x7 x8 U 0 D.1 D.2.1 (copyL D.2.2.1 (wrap64 (x8*D.2.1)) U))else(none))else(none)))))))else(none))else(none))else(none))else(none))
def recoupref04_Reduce.l3:Nat→List Int→Int→Int→List Int→Int→Int→Int→List Int→Option (Int×Int×List Int×List Int×Int)
 |0,_,_,_,_,_,_,_,_=>none
 |k+1,x6,x7,x8,O,J,D,G,I=>if J<D then(if J=x8 then(recoupref04_Reduce.l3 k x6 x7 x8 O (wrap64 (J+1)) D G I)else((recoupref03_At.f D G I J x7).bind fun L=>(recoupref04_Reduce.l4 k x6 x7 x8 O J L 0 D G I)))else(if x6.length<17592186044416 then(recoupref04_Reduce.l0 k (x6++ [x7]) (wrap64 (x7+1)) D G I)else(none))
def recoupref04_Reduce.l4:Nat→List Int→Int→Int→List Int→Int→Int→Int→Int→Int→List Int→Option (Int×Int×List Int×List Int×Int)
 |0,_,_,_,_,_,_,_,_,_,_=>none
 |k+1,x6,x7,x8,O,L,X,I,J,D,G=>if I<D then(if 0≤(wrap64 ((wrap64 (L*D))+I))then(if(wrap64 ((wrap64 (L*D))+I))<(G.length:Int)then(if 0≤I then(if I<(O.length:Int)then((recoupref01_Mul.f k X (rd O I)).bind fun U=>(recoupref04_Reduce.l4 k x6 x7 x8 O L X (wrap64 (I+1)) J D (G.set ((wrap64 ((wrap64 (L*D))+I)):Int).toNat (Go.bits .xor .u8 (rd G (wrap64 ((wrap64 (L*D))+I))) U))))else(none))else(none))else(none))else(none))else(recoupref04_Reduce.l3 k x6 x7 x8 O (wrap64 (L+1)) J D G)
def recoupref04_Reduce.l1:Nat→List Int→Int→Int→Int→Int→Int→List Int→Option (Int×Int×List Int×List Int×Int)
 |0,_,_,_,_,_,_,_=>none
 |k+1,x6,x7,x8,x9,D,G,I=>if x9<D then((recoupref03_At.f D G I x9 x7).bind fun J=>(if J=0 then(recoupref04_Reduce.l1 k x6 x7 x8 (wrap64 (x9+1)) D G I)else(recoupref04_Reduce.j3 k x6 x7 x8 x9 D G I)))else(recoupref04_Reduce.j3 k x6 x7 x8 x9 D G I)
end
def recoupref04_Reduce.f(k:Nat)(G:Int)(I:Int)(J:List Int):Option (Int×Int×List Int×List Int×Int):=(recoupref03_Right.f G I J).bind fun L=>(if L=true then((recoupref03_Copy.f G I J).bind fun D=>(recoupref04_Reduce.l0 k ([]:List Int) 0 D.1 D.2.1 D.2.2))else(some (0,0,([]:List Int),([]:List Int),3)))
def recoupref04_Reduce.T32:Bool×List (List Nat×List Nat):=(true,[([],[]),([0],[0]),([],[]),([],[]),([3],[3]),([2,4],[2,4]),([],[]),([5,6],[5,6]),([1,7],[1,7]),([8],[8]),([],[]),([],[]),([],[]),([11,12],[11,12]),([13],[13]),([10,14],[10,14]),([9,15],[9,15]),([1,7,0,1,2,3,4,5,6,7,8,9,10,11,12,13,14,15,16],[1,7]),([17,16,15,0,1,2,3,4,5,6,7,8,9,10,11,12,13,14,15,16],[16,17])])
def recoupref04_Reduce.B32:List Nat:= [0,1,0,0,8,28,0,124,255,511,0,0,0,6144,14336,31744,65535,131071,262143]
theorem recoupref04_Reduce.tab32:rtab .any (opsOf Tryd.f39 32)=recoupref04_Reduce.T32:=by kernel_rfl
theorem recoupref04_Reduce.bits32:waitsOk recoupref04_Reduce.T32.2 recoupref04_Reduce.B32=true:=by kernel_rfl
set_option maxHeartbeats 8000000 in
set_option maxRecDepth 100000 in
theorem recoupref04_Reduce.calls(k:Nat)(au:Int)(av:Int)(az:Option Addr)(a0:Nat)(ar:List Int)(r1:Int)(r2:Int)(r3:List Int)(r4:List Int)(r5:Int)(w:World)(iz:Kd.C (Kd.int .u8) w az ar.length ar)(iy:ar.length≤a0)(h:recoupref04_Reduce.f k au av ar=some (r1,r2,r3,r4,r5)):
 Calls Tryd.prog 39 #[.agg #[.int .i64 au,.int .i64 av,.slice az ar.length a0]] w fun e w'=> ∃v2_ v3_:Value,e= .returned (.tuple #[.agg #[.int .i64 r1,.int .i64 r2,v2_],v3_,.int .i64 r5])∧Kd.R (Kd.int .u8) 5 w' w.heap.size (fun _=>True) v2_ r3∧Kd.R (Kd.int .i64) 3 w' w.heap.size (fun _=>True) v3_ r4∧Below w.heap.size w w':=by
 have rj:=Tryd.underlying24;have fz:=aK iz;have fx:=aK iy;clear iz iy;have HB:=aK (Below.refl w.heap.size w);have H:((recoupref03_Right.f au av ar).bind fun i8=>(if i8=true then((recoupref03_Copy.f au av ar).bind fun f0=>(recoupref04_Reduce.l0 k ([]:List Int) 0 f0.1 f0.2.1 f0.2.2))else(some (0,0,([]:List Int),([]:List Int),3))))=some (r1,r2,r3,r4,r5):=h;clear h;obtain⟨i8,A2,H⟩:=bindO H
 (try dsimp only at H)
 by_cases c3:i8=true
 ·subst c3;rw[if_pos rfl]at H
  obtain⟨⟨fv,gm,gn⟩,A4,H⟩:=bindO H
  (try dsimp only at H)
  have H':=aK H;clear H
  go_enter Tryd.func39,Tryd.ntmps39
  go_wp2_with (first|((with_reducible refine gD 1 rfl ?_);(try(refine gate_guard ze ?_;dsimp only));refine bE 1 #[.int .i64 au,.int .i64 av,.slice az ar.length a0] 24 ?_;intro a2 hg w5 hbox hb;have I:=aK (hbox);have j6:=hbS HB hg;have j2:=hbS HB hg;replace HB:=hbB HB hb;clear hb hbox hg)|((with_reducible refine gD 2 rfl ?_);(try(refine gate_guard ze ?_;dsimp only));refine bE 2 #[.int .i64 0,.int .i64 0,.slice none 0 0] 24 ?_;intro aq hg w6 hbox hb;have J:=aK (hbox);have j7:=hbS HB hg;have j4:=hbS HB hg;replace HB:=hbB HB hb;have bs:=neL I hg;have bt:=neG I hg;replace I:=bkB I hb;clear hb hbox hg;have rh:=bs.out;have ri:=bt.out;obtain⟨bu,bv,bw,bx,bz,b0⟩:=cell3 I)|((with_reducible refine gC 37 rfl ?_);refine cG (some 20) Tryd.func37 #[.agg #[.int .i64 au,.int .i64 av,.slice az ar.length a0]] ?_;(with_reducible refine(recoupref03_Right.calls au av _ _ ar true _ ?side1 ?side2 A2.out).mono ?_);(case side1=>exact kcB fz HB);(case side2=>exact fx.out);rintro e w9 ⟨rfl,hb⟩;refine⟨_,rfl,?_⟩;replace I:=bkB I hb;replace J:=bkB J hb;replace HB:=hbB HB hb;(try clear hb);obtain⟨a4,a5,a6,ba,bb,bc⟩:=cell3 I)|((with_reducible refine gC 28 rfl ?_);refine cG (some 24) Tryd.func28 #[.agg #[.int .i64 au,.int .i64 av,.slice az ar.length a0]] ?_;(with_reducible refine(recoupref03_Copy.calls au av _ _ ar fv gm gn _ ?side1 ?side2 A4.out).mono ?_);(case side1=>exact kcB fz HB);(case side2=>exact fx.out);rintro e rz ⟨rk,rfl,cf,hb⟩;refine⟨_,rfl,?_⟩;have ef:=aK (Kd.R_lower cf (below_size (hbA HB.out)));replace I:=bkB I hb;replace J:=bkB J hb;replace HB:=hbB HB hb;(try clear hb);(try clear cf))|((with_reducible refine gD 5 rfl ?_);(try(refine gate_guard ze ?_;dsimp only));refine bE 5 #[.int .i64 0,.int .i64 0,.slice none 0 0] 24 ?_;intro ax hg r0 hbox hb;replace ef:=kdB ef hb;have D:=aK (hbox);have oy:=hbS HB hg;have ox:=hbS HB hg;replace HB:=hbB HB hb;have X:=neL I hg;have aa:=neG I hg;replace I:=bkB I hb;have Y:=neL J hg;have ab:=neG J hg;replace J:=bkB J hb;clear hb hbox hg;have pb:=aa.out;have px:=X.out;have pc:=ab.out;have py:=Y.out;obtain⟨a7,a8,a9,bd,be,bf⟩:=cell3 D;obtain⟨jj,jq,m0⟩:=Kd.R_slice ef.out;subst m0))
  go_loopg [6,7] k (fun kq v6 v7 w'=> ∃(O:List Int) (aj:Int) (G:Int) (U:Int) (L:List Int) (u161002:Value),v7= .int .i64 aj∧Aside0 (recoupref04_Reduce.l0 kq O aj G U L=some (r1,r2,r3,r4,r5))∧Aside0 (kq≤k)∧Aside0 (Kd.R (Kd.int .i64) 3 w' w.heap.size (fun _=>True) v6 O)∧Aside0 (Kd.R (Kd.int .u8) 5 w' w.heap.size (fun _=>True) u161002 L)∧Aside0 (w'.heap[a2]? =some (.cells #[.int .i64 au,.int .i64 av,(.slice az ar.length a0)] 24 (0,0)))∧Aside0 (w'.heap[aq]? =some (.cells #[.int .i64 0,.int .i64 0,(.slice none 0 0)] 24 (0,0)))∧Aside0 (w'.heap[ax]? =some (.cells #[.int .i64 G,.int .i64 U,u161002] 24 (0,0)))∧Aside0 (Below w.heap.size w w'))
  case atStart=>exact⟨(([]:List Int)),(0),(fv),(gm),(gn),(.slice jj gn.length jq),rsE,H',⟨Nat.le_refl _⟩,⟨nilE⟩,⟨by(with_reducible repeat(first|apply Kd.R_alloc|apply Kd.R_drewN|apply Kd.R_drew));exact Kd.R_mono (Kd.R_far (p:=⟨ax,2,none⟩) (Kd.R_far (p:=⟨ax,1,none⟩) (Kd.R_far (p:=⟨ax,0,none⟩) (Kd.R_types ef.out D.out zc) (fun _ hk=>hk.2) (.int .i64 fv)) (fun _ hk=>hk.2) (.int .i64 gm)) (fun _ hk=>hk.2) (.slice jj gn.length jq)) (fun _ hk=>trivial)⟩,⟨by refine bkR ?_;refine blk_far ?_ X.out _;refine bkR ?_;refine blk_far ?_ X.out _;refine bkR ?_;refine blk_far ?_ X.out _;refine bkR ?_;exact I.out⟩,⟨by refine bkR ?_;refine blk_far ?_ Y.out _;refine bkR ?_;refine blk_far ?_ Y.out _;refine bkR ?_;refine blk_far ?_ Y.out _;refine bkR ?_;exact J.out⟩,⟨by refine bkR ?_;refine blk_put (cs:= #[.int .i64 fv,.int .i64 gm,.slice none 0 0]) ?_ 2 _ rfl;refine bkR ?_;refine blk_put (cs:= #[.int .i64 fv,.int .i64 0,.slice none 0 0]) ?_ 1 _ rfl;refine bkR ?_;refine blk_put (cs:= #[.int .i64 0,.int .i64 0,.slice none 0 0]) ?_ 0 _ rfl;refine bkR ?_;exact D.out⟩,⟨hbA HB.out⟩⟩
  case round=>
   clear H'
   (try clear c1);(try clear c2);(try clear p2);(try clear c3);(try clear c7);(try clear gp);(try clear gq);(try clear a4 a5 a6 ba bb bc);(try clear a7 a8 a9 bd be bf);(try clear bu bv bw bx bz b0)
   obtain⟨O,aj,G,U,L,u161002,rfl,HA,b6,HO_6,HO_161002,I,J,D,HB⟩:=hrel
   cases gk with
   |zero=>exact absurd HA.out (by simp[recoupref04_Reduce.l0])
   |succ k1=>
    have H:=HA.out;clear HA;simp only[recoupref04_Reduce.l0]at H;have ib:=aK H;clear H
    go_upto_region 6 with(fail)
    go_cut [35] (fun qu wc=> ∃(kq:Nat) (dc:Bool),qu= .bool dc∧Aside0 (recoupref04_Reduce.j1 kq O aj dc G U L=some (r1,r2,r3,r4,r5))∧Aside0 (kq≤k1)∧Aside0 (Kd.R (Kd.int .i64) 3 wc w.heap.size (fun _=>True) u6 O)∧Aside0 (Kd.R (Kd.int .u8) 5 wc w.heap.size (fun _=>True) u161002 L)∧Aside0 (wc.heap[a2]? =some (.cells #[.int .i64 au,.int .i64 av,(.slice az ar.length a0)] 24 (0,0)))∧Aside0 (wc.heap[aq]? =some (.cells #[.int .i64 0,.int .i64 0,(.slice none 0 0)] 24 (0,0)))∧Aside0 (wc.heap[ax]? =some (.cells #[.int .i64 G,.int .i64 U,u161002] 24 (0,0)))∧Aside0 (Below w.heap.size w wc))
    case first=>
     have H:=ib.out;clear ib;by_cases db:aj<U
     ·rw[if_pos db]at H
      have c18b0:decide (aj<U)=true:=decide_eq_true db;clear db
      (first|rw[c18b0] |(simp only[i64_w,i32_w];rw[c18b0])|skip)
      have H':=aK H;clear H;have pd:=aa.out;have pz:=X.out;have pe:=ab.out;have p0:=Y.out;obtain⟨bg,bh,bi,bm,bn,bo⟩:=cell3 D;obtain⟨qw,rc,m1⟩:=Kd.R_slice HO_6.out;subst m1;go_wp2
      go_meet
      case rel=>exact⟨_,(decide ((O.length:Int)<G)),rsE,H',⟨by have:=b6.out;first|omega|exact Nat.le_refl _⟩,⟨kdA HO_6.out⟩,⟨kdA HO_161002.out⟩,⟨bkA I.out⟩,⟨bkA J.out⟩,⟨bkA D.out⟩,⟨hbA HB.out⟩⟩
     ·rw[if_neg db]at H
      have c18b0:decide (aj<U)=false:=decide_eq_false db;clear db
      (first|rw[c18b0] |(simp only[i64_w,i32_w];rw[c18b0])|skip)
      have H':=aK H;clear H;have pf:=aa.out;have p1:=X.out;have pg:=ab.out;have p3:=Y.out;obtain⟨bj,bk,bl,bp,bq,br⟩:=cell3 D;go_wp2
      go_meet
      case rel=>exact⟨_,(false),rsE,H',⟨by have:=b6.out;first|omega|exact Nat.le_refl _⟩,⟨kdA HO_6.out⟩,⟨kdA HO_161002.out⟩,⟨bkA I.out⟩,⟨bkA J.out⟩,⟨bkA D.out⟩,⟨hbA HB.out⟩⟩
    case rest=>
     clear ib
     (try clear c1);(try clear c2);(try clear p2 p2);(try clear c3);(try clear c7);(try clear gp);(try clear gq);(try clear db);(try clear c18b0);(try clear im);(try clear io);(try clear ip);(try clear iq);(try clear a4 a5 a6 ba bb bc);(try clear a7 a8 a9 bd be bf);(try clear bg bh bi bm bn bo);(try clear bj bk bl bp bq br);(try clear bu bv bw bx bz b0)
     obtain⟨kq,dc,rfl,HA,a1,HO_6,HO_161002,I,J,D,HB⟩:=hcut
     cases kq with
     |zero=>exact absurd HA.out (by simp[recoupref04_Reduce.j1])
     |succ i1=>
      have H:=HA.out;clear HA;simp only[recoupref04_Reduce.j1]at H;by_cases eh:dc=true
      ·subst eh;rw[if_pos rfl]at H
       have ic:=aK H;clear H;obtain⟨b1,b3,m2⟩:=Kd.R_slice HO_6.out;subst m2
       go_upto_block 2 with(fail)
       go_cut [9] (fun v9 wc=> ∃(kq:Nat) (af:Int),v9= .int .i64 af∧Aside0 (recoupref04_Reduce.j3 kq O aj (O.length:Int) af G U L=some (r1,r2,r3,r4,r5))∧Aside0 (kq≤i1)∧Aside0 (Kd.R (Kd.int .i64) 3 wc w.heap.size (fun _=>True) (.slice b1 O.length b3) O)∧Aside0 (Kd.R (Kd.int .u8) 5 wc w.heap.size (fun _=>True) u161002 L)∧Aside0 (wc.heap[a2]? =some (.cells #[.int .i64 au,.int .i64 av,(.slice az ar.length a0)] 24 (0,0)))∧Aside0 (wc.heap[aq]? =some (.cells #[.int .i64 0,.int .i64 0,(.slice none 0 0)] 24 (0,0)))∧Aside0 (wc.heap[ax]? =some (.cells #[.int .i64 G,.int .i64 U,u161002] 24 (0,0)))∧Aside0 (Below w.heap.size w wc))
       case first=>
        have H:=ic.out;clear ic;have H':=aK H;clear H;go_wp2
        go_loopg [9] i1 (fun kq v9 w'=> ∃(cg:Int),v9= .int .i64 cg∧Aside0 (recoupref04_Reduce.l1 kq O aj (O.length:Int) cg G U L=some (r1,r2,r3,r4,r5))∧Aside0 (kq≤i1)∧Aside0 (Kd.R (Kd.int .i64) 3 w' w.heap.size (fun _=>True) (.slice b1 O.length b3) O)∧Aside0 (Kd.R (Kd.int .u8) 5 w' w.heap.size (fun _=>True) u161002 L)∧Aside0 (w'.heap[a2]? =some (.cells #[.int .i64 au,.int .i64 av,(.slice az ar.length a0)] 24 (0,0)))∧Aside0 (w'.heap[aq]? =some (.cells #[.int .i64 0,.int .i64 0,(.slice none 0 0)] 24 (0,0)))∧Aside0 (w'.heap[ax]? =some (.cells #[.int .i64 G,.int .i64 U,u161002] 24 (0,0)))∧Aside0 (Below w.heap.size w w'))
        case atStart=>exact⟨((O.length:Int)),rsE,H',⟨Nat.le_refl _⟩,⟨kdA HO_6.out⟩,⟨kdA HO_161002.out⟩,⟨bkA I.out⟩,⟨bkA J.out⟩,⟨bkA D.out⟩,⟨hbA HB.out⟩⟩
        case round=>
         clear H'
         (try clear c1);(try clear c2);(try clear p2 p2);(try clear c3);(try clear c7);(try clear gp);(try clear gq);(try clear db);(try clear c18b0);(try clear im);(try clear io);(try clear ip);(try clear iq);(try clear eh);(try clear jh);(try clear a4 a5 a6 ba bb bc);(try clear a7 a8 a9 bd be bf);(try clear bg bh bi bm bn bo);(try clear bj bk bl bp bq br);(try clear bu bv bw bx bz b0)
         obtain⟨cg,rfl,HA,je,HO_6,HO_161002,I,J,D,HB⟩:=hrel
         cases gk with
         |zero=>exact absurd HA.out (by simp[recoupref04_Reduce.l1])
         |succ k3=>
          have H:=HA.out;clear HA;simp only[recoupref04_Reduce.l1]at H;by_cases ea:cg<G
          ·rw[if_pos ea]at H
           have c29b0:decide (cg<G)=true:=decide_eq_true ea;clear ea
           (first|rw[c29b0] |(simp only[i64_w,i32_w];rw[c29b0])|skip)
           obtain⟨d1,ml,H⟩:=bindO H
           (try dsimp only at H)
           by_cases de:d1=0
           ·rw[if_pos de]at H
            have c31b0:(d1==0)=true:=beq_iff_eq.mpr de;have c31b1:(d1 !=0)=false:=bne_eq_false_iff_eq.mpr de;clear de;have H':=aK H;clear H;have ph:=aa.out;have p4:=X.out;have pi:=ab.out;have p8:=Y.out;obtain⟨ch,ci,cj,cq,cr,ct⟩:=cell3 D;obtain⟨qx,re,m3⟩:=Kd.R_slice HO_161002.out;subst m3
            go_wp2_with (first|(go_at_call 40;(with_reducible refine(recoupref03_At.calls G U _ _ L cg aj d1 _ ?side1 ?side2 ml.out).mono ?_);(case side1=>exact kcA (Kd.R_reads' HO_161002.out).2.2);(case side2=>exact(Kd.R_reads' HO_161002.out).2.1);rintro e r6 ⟨rfl,hb⟩;replace HO_6:=kdB HO_6 hb;replace HO_161002:=kdB HO_161002 hb;replace I:=bkB I hb;replace J:=bkB J hb;replace D:=bkB D hb;replace HB:=hbB HB hb;(try clear hb)))
            go_roundg k3
            case measure=>have:=b6.out;have:=a1.out;have:=je.out;omega
            case rel=>exact⟨(wrap64 (cg+1)),rsE,H',⟨by have:=b6.out;have:=a1.out;have:=je.out;omega⟩,⟨kdA HO_6.out⟩,⟨kdA HO_161002.out⟩,⟨bkA I.out⟩,⟨bkA J.out⟩,⟨bkA D.out⟩,⟨hbA HB.out⟩⟩
           ·rw[if_neg de]at H
            have c31b0:(d1==0)=false:=beq_eq_false_iff_ne.mpr de;have c31b1:(d1 !=0)=true:=bne_iff_ne.mpr de;have H':=aK H;clear H;have pj:=aa.out;have p9:=X.out;have pk:=ab.out;have qa:=Y.out;obtain⟨ck,cl,cm,cu,cv,cw⟩:=cell3 D;obtain⟨qy,rf,m4⟩:=Kd.R_slice HO_161002.out;subst m4
            go_wp2_with (first|(go_at_call 40;(with_reducible refine(recoupref03_At.calls G U _ _ L cg aj d1 _ ?side1 ?side2 ml.out).mono ?_);(case side1=>exact kcA (Kd.R_reads' HO_161002.out).2.2);(case side2=>exact(Kd.R_reads' HO_161002.out).2.1);rintro e r7 ⟨rfl,hb⟩;replace HO_6:=kdB HO_6 hb;replace HO_161002:=kdB HO_161002 hb;replace I:=bkB I hb;replace J:=bkB J hb;replace D:=bkB D hb;replace HB:=hbB HB hb;(try clear hb)))
            go_meet
            case rel=>exact⟨_,(cg),rsE,H',⟨by have:=b6.out;have:=a1.out;have:=je.out;first|omega|exact Nat.le_refl _⟩,⟨kdA HO_6.out⟩,⟨kdA HO_161002.out⟩,⟨bkA I.out⟩,⟨bkA J.out⟩,⟨bkA D.out⟩,⟨hbA HB.out⟩⟩
          ·rw[if_neg ea]at H
           have c29b0:decide (cg<G)=false:=decide_eq_false ea;clear ea
           (first|rw[c29b0] |(simp only[i64_w,i32_w];rw[c29b0])|skip)
           have H':=aK H;clear H;have pl:=aa.out;have qb:=X.out;have pm:=ab.out;have qc:=Y.out;obtain⟨cn,co,cp,cx,cy,cz⟩:=cell3 D;go_wp2
           go_meet
           case rel=>exact⟨_,(cg),rsE,H',⟨by have:=b6.out;have:=a1.out;have:=je.out;first|omega|exact Nat.le_refl _⟩,⟨kdA HO_6.out⟩,⟨kdA HO_161002.out⟩,⟨bkA I.out⟩,⟨bkA J.out⟩,⟨bkA D.out⟩,⟨hbA HB.out⟩⟩
       case rest=>
        clear ic
        (try clear c1);(try clear c2);(try clear p2 p2);(try clear c3);(try clear c4);(try clear p6);(try clear c7);(try clear gp);(try clear gq);(try clear db);(try clear c18b0);(try clear im);(try clear io);(try clear ip);(try clear iq);(try clear eh);(try clear jh);(try clear ea);(try clear c29b0);(try clear de);(try clear c31b0);(try clear c31b1);(try clear ki);(try clear kj);(try clear kk);(try clear kl);(try clear km);(try clear kn);(try clear ko);(try clear a4 a5 a6 ba bb bc);(try clear a7 a8 a9 bd be bf);(try clear bg bh bi bm bn bo);(try clear bj bk bl bp bq br);(try clear ch ci cj cq cr ct);(try clear ck cl cm cu cv cw);(try clear cn co cp cx cy cz);(try clear bu bv bw bx bz b0)
        obtain⟨kq,af,rfl,HA,b2,HO_6,HO_161002,I,J,D,HB⟩:=hcut
        cases kq with
        |zero=>exact absurd HA.out (by simp[recoupref04_Reduce.j3])
        |succ gl=>
         have H:=HA.out;clear HA;simp only[recoupref04_Reduce.j3]at H;by_cases eb:af=G
         ·rw[if_pos eb]at H
          have c45b0:(af==G)=true:=beq_iff_eq.mpr eb;have c45b1:(af !=G)=false:=bne_eq_false_iff_eq.mpr eb;clear eb;have H':=aK H;clear H;have pn:=aa.out;have qd:=X.out;have po:=ab.out;have qe:=Y.out;obtain⟨df,dg,dh,dl,dm,dn⟩:=cell3 D;go_wp2
          go_roundg gl
          case measure=>have:=b6.out;have:=a1.out;have:=b2.out;omega
          case rel=>exact⟨(O),(wrap64 (aj+1)),(G),(U),(L),(u161002),rsE,H',⟨by have:=b6.out;have:=a1.out;have:=b2.out;omega⟩,⟨kdA HO_6.out⟩,⟨kdA HO_161002.out⟩,⟨bkA I.out⟩,⟨bkA J.out⟩,⟨bkA D.out⟩,⟨hbA HB.out⟩⟩
         ·rw[if_neg eb]at H
          have c45b0:(af==G)=false:=beq_eq_false_iff_ne.mpr eb;have c45b1:(af !=G)=true:=bne_iff_ne.mpr eb;by_cases en:0≤G
          ·rw[if_pos en]at H
           have c49b0:=eq_true en;have c49b1:decide (0≤G)=true:=decide_eq_true en;clear en;by_cases eo:(G:Int).toNat≤35184372088832
           ·rw[if_pos eo]at H
            have c50b0:=eq_true eo;have c50b1:decide ((G:Int).toNat≤35184372088832)=true:=decide_eq_true eo;clear eo;obtain⟨jy,du⟩: ∃y_:List Int,y_=(List.replicate (G:Int).toNat 0):=⟨_,rfl⟩
            replace H:(recoupref04_Reduce.l2 gl O aj (O.length:Int) af jy 0 G U L)=some (r1,r2,r3,r4,r5):=by first|(rw[du];with_reducible exact H)|(have H2_:=(Option.bind_some _ _).symm.trans H;rw[du];with_reducible exact H2_)|(have H2_:=(Option.bind_some _ _).symm.trans H;with_reducible exact H2_)|with_reducible exact H|(rw[du];exact H)|exact H
            have ik:=aK du;clear du;have H':=aK H;clear H;have pp:=aa.out;have qf:=X.out;have pq:=ab.out;have qg:=Y.out;obtain⟨di,dj,dk,dp,dq,dr⟩:=cell3 D
            go_wp2_with (first|((with_reducible refine gate_dst (N:=60) rfl ?_);(try(refine gate_guard ze ?_;dsimp only));refine Kd.R_make (Kd.int .i64) _ 3 rfl (N:=60) rfl 42 _ _ rfl G rfl rfl Tryd.underlying42 (.int .i64 0) 8 info3 rfl zc za 0 (ok:=fun _=>True) (okp:=fun _=>True) rfl (fun _ hk=>hk) trivial (of_decide_eq_true asE) (Nat.le_trans (Nat.mul_le_mul_right _ (of_decide_eq_true asE:G.toNat≤35184372088832)) za) (Below.refl _ _) (Nat.le_refl _) ?_;intro jx r8 ee hb hg_ hnew_;clear hg_ hnew_;(first|rw[←ik.out]at ee|(simp only[Int.reduceToNat]at ee;rw[←ik.out]at ee));replace HO_161002:=kdB HO_161002 hb;have j8:=aK (Kd.R_lower (Kd.R_new' ee (Kd.R_lt (kdA HO_6.out))) (below_size (hbA HB.out)));replace HO_6:=aK (Kd.R_elder' (kdA HO_6.out) (Kd.R_base ee) hb);replace I:=bkB I hb;replace J:=bkB J hb;replace D:=bkB D hb;replace HB:=hbB HB hb;clear hb ee))
            go_loopg [11] gl (fun kq qq w'=> ∃(ac:List Int) (an:Int),qq= .int .i64 an∧Aside0 (recoupref04_Reduce.l2 kq O aj (O.length:Int) af ac an G U L=some (r1,r2,r3,r4,r5))∧Aside0 (kq≤gl)∧Aside0 (Kd.R (Kd.int .i64) 3 w' w.heap.size (fun k_=>some k_≠(jx:Value).ownBlock) (.slice b1 O.length b3) O)∧Aside0 (Kd.R (Kd.int .i64) 3 w' w.heap.size (fun k_=>some k_≠((.slice b1 O.length b3):Value).ownBlock) jx ac)∧Aside0 (Kd.R (Kd.int .u8) 5 w' w.heap.size (fun _=>True) u161002 L)∧Aside0 (w'.heap[a2]? =some (.cells #[.int .i64 au,.int .i64 av,(.slice az ar.length a0)] 24 (0,0)))∧Aside0 (w'.heap[aq]? =some (.cells #[.int .i64 0,.int .i64 0,(.slice none 0 0)] 24 (0,0)))∧Aside0 (w'.heap[ax]? =some (.cells #[.int .i64 G,.int .i64 U,u161002] 24 (0,0)))∧Aside0 (Below w.heap.size w w'))
            case atStart=>exact⟨(jy),(0),rsE,H',⟨Nat.le_refl _⟩,⟨by(with_reducible repeat(first|apply Kd.R_alloc|apply Kd.R_drewN|apply Kd.R_drew));exact Kd.R_mono HO_6.out (fun _ hk=>hk.2)⟩,⟨by(with_reducible repeat(first|apply Kd.R_alloc|apply Kd.R_drewN|apply Kd.R_drew));exact Kd.R_mono j8.out (fun _ hk=>hk.2)⟩,⟨kdA HO_161002.out⟩,⟨bkA I.out⟩,⟨bkA J.out⟩,⟨bkA D.out⟩,⟨hbA HB.out⟩⟩
            case round=>
             clear H'
             (try clear c1);(try clear c2);(try clear p2 p2);(try clear c3);(try clear c4);(try clear c5);(try clear p6 p6);(try clear c7);(try clear gp);(try clear gq);(try clear db);(try clear c18b0);(try clear im);(try clear io);(try clear ip);(try clear iq);(try clear eh);(try clear jh);(try clear ea);(try clear c29b0);(try clear de);(try clear c31b0);(try clear c31b1);(try clear ki);(try clear kj);(try clear kk);(try clear kl);(try clear km);(try clear kn);(try clear ko);(try clear eb);(try clear c45b0);(try clear c45b1);(try clear mu);(try clear mv);(try clear en);(try clear c49b0);(try clear c49b1);(try clear eo);(try clear c50b0);(try clear c50b1);(try clear mw);(try clear mx);(try clear a4 a5 a6 ba bb bc);(try clear a7 a8 a9 bd be bf);(try clear bg bh bi bm bn bo);(try clear bj bk bl bp bq br);(try clear ch ci cj cq cr ct);(try clear ck cl cm cu cv cw);(try clear cn co cp cx cy cz);(try clear df dg dh dl dm dn);(try clear di dj dk dp dq dr);(try clear bu bv bw bx bz b0)
             obtain⟨ac,an,rfl,HA,d9,HO_6,HO_10,HO_161002,I,J,D,HB⟩:=hrel
             cases gk with
             |zero=>exact absurd HA.out (by simp[recoupref04_Reduce.l2])
             |succ k4=>
              have H:=HA.out;clear HA;simp only[recoupref04_Reduce.l2]at H;by_cases ep:an<G
              ·rw[if_pos ep]at H
               have c56b0:decide (an<G)=true:=decide_eq_true ep;clear ep;by_cases gr:0≤an
               ·rw[if_pos gr]at H
                have c57b0:decide (0≤an)=true:=decide_eq_true gr;clear gr;by_cases gs:an<(ac.length:Int)
                ·rw[if_pos gs]at H
                 have c58b0:decide (an<(ac.length:Int))=true:=decide_eq_true gs;clear gs;obtain⟨jb,dv⟩: ∃y_:List Int,y_=(ac.set (an:Int).toNat an):=⟨_,rfl⟩
                 replace H:(recoupref04_Reduce.l2 k4 O aj (O.length:Int) af jb (wrap64 (an+1)) G U L)=some (r1,r2,r3,r4,r5):=by first|(rw[dv];with_reducible exact H)|(have H2_:=(Option.bind_some _ _).symm.trans H;rw[dv];with_reducible exact H2_)|(have H2_:=(Option.bind_some _ _).symm.trans H;with_reducible exact H2_)|with_reducible exact H|(rw[dv];exact H)|exact H
                 have kb:=aK dv;clear dv;have H':=aK H;clear H;have pr:=aa.out;have qh:=X.out;have pt:=ab.out;have qi:=Y.out;obtain⟨es,et,eu,fa,fb,fc⟩:=cell3 D;have p59:0≤(an:Int):=of_decide_eq_true asE;have f6:(an:Int)<((ac.length:Int):Int):=of_decide_eq_true asE;obtain⟨ed,gg,jr,ju,m8,q9,jl⟩:=Kd.R_form HO_10.out za
                 (first|cases jr|(injection jr with ea_ en_ ec_;(first|subst ea_|(injection ea_ with ea_;subst ea_));subst ec_;clear en_))
                 have ms:=aK ju;have qz:=aK jl;clear ju m8 jl;obtain⟨gh,nt⟩:=Kd.R_celln 0 HO_10.out (an:Int) p59 f6;replace p59:=eq_true p59;replace f6:=eq_true f6;have ig:=Kd.R_putg HO_10.out (an:Int) an
                 go_wp2_with (first|((with_reducible refine gate_store (t:=3) (p:=70) rfl ?_);refine store_event (t:=3) (p:=70) (v:=?vo_w64) (w1:=(wr.setCell ⟨ed,(an:Int).toNat,none⟩ (.int .i64 an))) ?hg ?ho ?hn ?hr ?_;(case ho=>rfl);(case hg=>rfl);(case hn=>rfl);(case hr=>first|(go_simp;done)|(go_simp;rfl));intro w64 hw;have hg:wr.grownBy w64 (some ed):=(by rw[hw];exact ig.2);have hp_:Kd.R (Kd.int .i64) 3 w64 w.heap.size (fun k_=>some k_≠(.slice b1 O.length b3:Value).ownBlock) (.slice (some ⟨ed,0,none⟩) ac.length gg) jb:=(by rw[hw,kb.out];exact ig.1);clear ig;replace HO_6:=aK (Kd.R_after (v:=(.slice (some ⟨ed,0,none⟩) ac.length gg)) (v1:=(.slice (some ⟨ed,0,none⟩) ac.length gg)) (ok:=(fun _=>True)) (by(with_reducible repeat(first|apply Kd.R_alloc|apply Kd.R_drewN|apply Kd.R_drew));exact Kd.R_mono HO_6.out (fun _ hk=>⟨trivial,hk⟩)) hg (.inl rfl));replace HO_161002:=aK (Kd.R_over' (v:=(.slice (some ⟨ed,0,none⟩) ac.length gg)) (kdA HO_161002.out) (Kd.R_typed HO_10.out) zc hg);replace I:=bkG I hg (Kd.R_ne HO_10.out I.out zc);replace J:=bkG J hg (Kd.R_ne HO_10.out J.out zc);replace D:=bkG D hg (Kd.R_ne HO_10.out D.out zc);replace HO_10:=aK (hp_);replace HB:=aK ((by rw[hw];exact below_set (HB.out) ms.out:Below w.heap.size w w64));clear hg hw hp_))
                 go_roundg k4
                 case measure=>have:=b6.out;have:=a1.out;have:=b2.out;have:=d9.out;omega
                 case rel=>exact⟨(jb),(wrap64 (an+1)),rsE,H',⟨by have:=b6.out;have:=a1.out;have:=b2.out;have:=d9.out;omega⟩,⟨by(with_reducible repeat(first|apply Kd.R_alloc|apply Kd.R_drewN|apply Kd.R_drew));exact Kd.R_mono HO_6.out (fun _ hk=>hk.2)⟩,⟨kdA HO_10.out⟩,⟨kdA HO_161002.out⟩,⟨bkA I.out⟩,⟨bkA J.out⟩,⟨bkA D.out⟩,⟨hbA HB.out⟩⟩
                ·rw[if_neg gs]at H
                 exact absurd H zd
               ·rw[if_neg gr]at H
                exact absurd H zd
              ·rw[if_neg ep]at H
               have c56b0:decide (an<G)=false:=decide_eq_false ep;clear ep;by_cases gt:0≤(O.length:Int)
               ·rw[if_pos gt]at H
                have c65b0:decide (0≤(O.length:Int))=true:=decide_eq_true gt;have c65b1:decide (0≤O.length)=true:=decide_eq_true za;clear gt;by_cases f3:(O.length:Int)<(ac.length:Int)
                ·rw[if_pos f3]at H
                 have c66b0:decide ((O.length:Int)<(ac.length:Int))=true:=decide_eq_true f3;have c66b1:decide (O.length<ac.length)=true:=decide_eq_true (Int.ofNat_lt.mp f3);clear f3;obtain⟨jc,dw⟩: ∃y_:List Int,y_=(ac.set ((O.length:Int):Int).toNat af):=⟨_,rfl⟩
                 replace H:(if 0≤af then(if af<(ac.length:Int)then((recoupref03_Pick.f k4 G U L (jc.set (af:Int).toNat (O.length:Int))).bind fun ag=>((recoupref03_At.f ag.1 ag.2.1 ag.2.2.1 (O.length:Int) aj).bind fun d2=>((recoupref01_Inv.f k4 d2).bind fun f1=>((recoupref03_Row.f k4 ag.1 ag.2.1 ag.2.2.1 (O.length:Int)).bind fun f2=>((recoupref01_Scale.f k4 f1.1 f2.1).bind fun b5=>(if 0≤(wrap64 ((O.length:Int)*ag.2.1))then(if(wrap64 ((O.length:Int)*ag.2.1))<(ag.2.2.1.length:Int)then(recoupref04_Reduce.l3 k4 O aj (O.length:Int) b5 0 ag.1 ag.2.1 (copyL ag.2.2.1 (wrap64 ((O.length:Int)*ag.2.1)) b5))else(none))else(none)))))))else(none))else(none))=some (r1,r2,r3,r4,r5):=by first|(rw[dw];with_reducible exact H)|(have H2_:=(Option.bind_some _ _).symm.trans H;rw[dw];with_reducible exact H2_)|(have H2_:=(Option.bind_some _ _).symm.trans H;with_reducible exact H2_)|with_reducible exact H|(rw[dw];exact H)|exact H
                 have kc:=aK dw;clear dw;by_cases gu:0≤af
                 ·rw[if_pos gu]at H
                  have c68b0:decide (0≤af)=true:=decide_eq_true gu;clear gu;by_cases gv:af<(ac.length:Int)
                  ·rw[if_pos gv]at H
                   have c69b0:decide (af<(ac.length:Int))=true:=decide_eq_true gv;clear gv;obtain⟨d8,dx⟩: ∃y_:List Int,y_=(jc.set (af:Int).toNat (O.length:Int)):=⟨_,rfl⟩
                   replace H:((recoupref03_Pick.f k4 G U L d8).bind fun ag=>((recoupref03_At.f ag.1 ag.2.1 ag.2.2.1 (O.length:Int) aj).bind fun d2=>((recoupref01_Inv.f k4 d2).bind fun f1=>((recoupref03_Row.f k4 ag.1 ag.2.1 ag.2.2.1 (O.length:Int)).bind fun f2=>((recoupref01_Scale.f k4 f1.1 f2.1).bind fun b5=>(if 0≤(wrap64 ((O.length:Int)*ag.2.1))then(if(wrap64 ((O.length:Int)*ag.2.1))<(ag.2.2.1.length:Int)then(recoupref04_Reduce.l3 k4 O aj (O.length:Int) b5 0 ag.1 ag.2.1 (copyL ag.2.2.1 (wrap64 ((O.length:Int)*ag.2.1)) b5))else(none))else(none)))))))=some (r1,r2,r3,r4,r5):=by first|(rw[dx];with_reducible exact H)|(have H2_:=(Option.bind_some _ _).symm.trans H;rw[dx];with_reducible exact H2_)|(have H2_:=(Option.bind_some _ _).symm.trans H;with_reducible exact H2_)|with_reducible exact H|(rw[dx];exact H)|exact H
                   have kd:=aK dx;clear dx;obtain⟨⟨am,ah,ai,np⟩,mm,H⟩:=bindO H
                   (try dsimp only at H)
                   obtain⟨d2,mn,H⟩:=bindO H
                   (try dsimp only at H)
                   obtain⟨⟨i9,nq⟩,mo,H⟩:=bindO H
                   (try dsimp only at H)
                   obtain⟨⟨d3,nr⟩,mq,H⟩:=bindO H
                   (try dsimp only at H)
                   obtain⟨b5,mr,H⟩:=bindO H
                   (try dsimp only at H)
                   obtain⟨b4,ce⟩: ∃j_:Int,(wrap64 ((O.length:Int)*ah))=j_:=⟨_,rfl⟩
                   replace H:(if 0≤(b4)then(if(b4)<(ai.length:Int)then(recoupref04_Reduce.l3 k4 O aj (O.length:Int) b5 0 am ah (copyL ai (b4) b5))else(none))else(none))=some (r1,r2,r3,r4,r5):=by first|(rw[ce]at H;exact H)|(simp only[ce]at H⊢;exact H)
                   (try rw[ce]at mm)
                   (try rw[ce]at mn)
                   (try rw[ce]at mo)
                   (try rw[ce]at mq)
                   (try rw[ce]at mr)
                   have hji76w:(IntKind.i64.wrap ((O.length:Int)*ah))=b4:=(i64_w _).trans ce;by_cases gw:0≤(b4)
                   ·rw[if_pos gw]at H
                    have c77b0:decide (0≤(b4))=true:=decide_eq_true gw;clear gw;by_cases gx:(b4)<(ai.length:Int)
                    ·rw[if_pos gx]at H
                     have c78b0:decide ((b4)<(ai.length:Int))=true:=decide_eq_true gx;clear gx;obtain⟨jd,dy⟩: ∃y_:List Int,y_=(copyL ai (b4) b5):=⟨_,rfl⟩
                     replace H:(recoupref04_Reduce.l3 k4 O aj (O.length:Int) b5 0 am ah jd)=some (r1,r2,r3,r4,r5):=by first|(rw[dy];with_reducible exact H)|(have H2_:=(Option.bind_some _ _).symm.trans H;rw[dy];with_reducible exact H2_)|(have H2_:=(Option.bind_some _ _).symm.trans H;with_reducible exact H2_)|with_reducible exact H|(rw[dy];exact H)|exact H
                     have ke:=aK dy;clear dy;have H':=aK H;clear H;have pv:=aa.out;have qj:=X.out;have pw:=ab.out;have qk:=Y.out;obtain⟨ev,ew,ex,fd,fe,ff⟩:=cell3 D;have p67:0≤((O.length:Int):Int):=of_decide_eq_true asE;have f7:((O.length:Int):Int)<((ac.length:Int):Int):=of_decide_eq_true asE;obtain⟨a3,ca,js,jv,m9,ra,jo⟩:=Kd.R_form HO_10.out za
                     (first|cases js|(injection js with ea_ en_ ec_;(first|subst ea_|(injection ea_ with ea_;subst ea_));subst ec_;clear en_))
                     have jk:=aK jv;have q0:=aK jo;clear jv m9 jo;obtain⟨ek,ji⟩:=Kd.R_celln 0 HO_10.out ((O.length:Int):Int) p67 f7;replace p67:=eq_true p67;replace f7:=eq_true f7;have ku:=ek;have kt:=ji;simp only[Int.toNat_natCast]at ku kt;have ii:=Kd.R_putg HO_10.out ((O.length:Int):Int) af
                     go_wp2_with (first|((with_reducible refine gate_store (t:=3) (p:=77) rfl ?_);refine store_event (t:=3) (p:=77) (v:=?vo_w84) (w1:=(wr.setCell ⟨a3,((O.length:Int):Int).toNat,none⟩ (.int .i64 af))) ?hg ?ho ?hn ?hr ?_;(case ho=>rfl);(case hg=>rfl);(case hn=>rfl);(case hr=>first|(go_simp;done)|(go_simp;rfl));intro ja hw;have hg:wr.grownBy ja (some a3):=(by rw[hw];exact ii.2);have hp_:Kd.R (Kd.int .i64) 3 ja w.heap.size (fun k_=>some k_≠(.slice b1 O.length b3:Value).ownBlock) (.slice (some ⟨a3,0,none⟩) ac.length ca) jc:=(by rw[hw,kc.out];exact ii.1);clear ii;replace HO_6:=aK (Kd.R_after (v:=(.slice (some ⟨a3,0,none⟩) ac.length ca)) (v1:=(.slice (some ⟨a3,0,none⟩) ac.length ca)) (ok:=(fun _=>True)) (by(with_reducible repeat(first|apply Kd.R_alloc|apply Kd.R_drewN|apply Kd.R_drew));exact Kd.R_mono HO_6.out (fun _ hk=>⟨trivial,hk⟩)) hg (.inl rfl));replace HO_161002:=aK (Kd.R_over' (v:=(.slice (some ⟨a3,0,none⟩) ac.length ca)) (kdA HO_161002.out) (Kd.R_typed HO_10.out) zc hg);replace I:=bkG I hg (Kd.R_ne HO_10.out I.out zc);replace J:=bkG J hg (Kd.R_ne HO_10.out J.out zc);replace D:=bkG D hg (Kd.R_ne HO_10.out D.out zc);replace HO_10:=aK (hp_);replace HB:=aK ((by rw[hw];exact below_set (HB.out) jk.out:Below w.heap.size w ja));clear hg hw hp_;have p70:0≤(af:Int):=of_decide_eq_true asE;have f8:(af:Int)<((ac.length:Int):Int):=of_decide_eq_true asE;obtain⟨gi,nu⟩:=Kd.R_celln 0 HO_10.out (af:Int) p70 f8;replace p70:=eq_true p70;replace f8:=eq_true f8;obtain⟨hy85_,hz85_⟩:=Kd.R_celln 0 HO_10.out (af:Int) (of_decide_eq_true asE) (of_decide_eq_true asE);have ij:=Kd.R_putg HO_10.out (af:Int) (O.length:Int))|((with_reducible refine gate_store (t:=3) (p:=78) rfl ?_);refine store_event (t:=3) (p:=78) (v:=?vo_w86) (w1:=(ja.setCell ⟨a3,(af:Int).toNat,none⟩ (.int .i64 (O.length:Int)))) ?hg ?ho ?hn ?hr ?_;(case ho=>rfl);(case hg=>rfl);(case hn=>rfl);(case hr=>first|(go_simp;done)|(go_simp;rfl));intro kv hw;have hg:ja.grownBy kv (some a3):=(by rw[hw];exact ij.2);have hp_:Kd.R (Kd.int .i64) 3 kv w.heap.size (fun k_=>some k_≠(.slice b1 O.length b3:Value).ownBlock) (.slice (some ⟨a3,0,none⟩) ac.length ca) d8:=(by rw[hw,kd.out];exact ij.1);clear ij;replace HO_6:=aK (Kd.R_after (v:=(.slice (some ⟨a3,0,none⟩) ac.length ca)) (v1:=(.slice (some ⟨a3,0,none⟩) ac.length ca)) (ok:=(fun _=>True)) (kdA HO_6.out) hg (.inl rfl));replace HO_161002:=aK (Kd.R_over' (v:=(.slice (some ⟨a3,0,none⟩) ac.length ca)) (kdA HO_161002.out) (Kd.R_typed HO_10.out) zc hg);replace I:=bkG I hg (Kd.R_ne HO_10.out I.out zc);replace J:=bkG J hg (Kd.R_ne HO_10.out J.out zc);replace D:=bkG D hg (Kd.R_ne HO_10.out D.out zc);replace HO_10:=aK (hp_);replace HB:=aK ((by rw[hw];exact below_set (HB.out) jk.out:Below w.heap.size w kv));clear hg hw hp_;obtain⟨ey,ez,e0,fg,fh,fi⟩:=cell3 D;obtain⟨b7,cb,m5⟩:=Kd.R_slice HO_161002.out;subst m5)|((with_reducible refine gC 16 rfl ?_);refine goesL_ (some 82) rfl rfl Tryd.func16 zb rfl #[.agg #[.int .i64 G,.int .i64 U,.slice b7 L.length cb],.slice (some ⟨a3,0,none⟩) d8.length ca] rfl (by(try simp only[List.map_toArray,List.map_cons,List.map_nil]);first|done|(rw[show d8.length=ac.length from(Kd.R_reads' HO_10.out).1.symm]<;>rfl)|rfl|(simp only[List.length_drop,List.length_take];rfl)) ?_;(with_reducible refine(recoupref03_Pick.calls k4 G U _ _ L _ _ d8 am ah ai np _ ?side1 ?side2 ?side3 ?side4 mm.out).mono ?_);(case side1=>exact kcA (Kd.R_reads' HO_161002.out).2.2);(case side2=>exact(Kd.R_reads' HO_161002.out).2.1);(case side3=>exact kcA (Kd.R_reads' HO_10.out).2.2);(case side4=>rw[show d8.length=ac.length from(Kd.R_reads' HO_10.out).1.symm];exact(Kd.R_reads' HO_10.out).2.1);rintro e r9 ⟨rl,rfl,cf,hb⟩;refine⟨_,rfl,?_⟩;replace HO_6:=kdB HO_6 hb;replace HO_10:=kdB HO_10 hb;have ae:=aK (Kd.R_lower (Kd.R_new' cf (Kd.R_lt (kdA HO_161002.out))) (below_size (hbA HB.out)));replace HO_161002:=aK (Kd.R_elder' (kdA HO_161002.out) (Kd.R_base cf) hb);replace I:=bkB I hb;replace J:=bkB J hb;replace D:=bkB D hb;replace HB:=hbB HB hb;(try clear hb);(try clear cf);obtain⟨e1,e2,e3,fj,fk,fl⟩:=cell3 D;obtain⟨b8,aw,m6⟩:=Kd.R_slice ae.out;subst m6)|((with_reducible refine gC 40 rfl ?_);refine cG (some 89) Tryd.func40 #[.agg #[.int .i64 am,.int .i64 ah,.slice b8 ai.length aw],.int .i64 (O.length:Int),.int .i64 aj] ?_;(with_reducible refine(recoupref03_At.calls am ah _ _ ai (O.length:Int) aj d2 _ ?side1 ?side2 mn.out).mono ?_);(case side1=>refine(Kd.R_reads' (e:=5) (base:=w.heap.size) (ok:=fun k_=>(True∧some k_≠(.slice b7 L.length cb:Value).ownBlock)) (n:=ai.length) (c:=aw) ?_).2.2;exact(by(with_reducible repeat(first|apply Kd.R_alloc|apply Kd.R_drewN|apply Kd.R_drew));exact(zF ae.out D.out  (.int .i64 am)  (.int .i64 ah)  (.slice b8 ai.length aw))));(case side2=>exact(Kd.R_reads' ae.out).2.1);rintro e d6 ⟨rfl,hb⟩;refine⟨_,rfl,?_⟩;replace HO_6:=aK (Kd.R_below (by(with_reducible repeat(first|apply Kd.R_alloc|apply Kd.R_drewN|apply Kd.R_drew));exact(zF HO_6.out D.out  (.int .i64 am)  (.int .i64 ah)  (.slice b8 ai.length aw))) hb);replace HO_10:=aK (Kd.R_below (by(with_reducible repeat(first|apply Kd.R_alloc|apply Kd.R_drewN|apply Kd.R_drew));exact(zF HO_10.out D.out  (.int .i64 am)  (.int .i64 ah)  (.slice b8 ai.length aw))) hb);replace HO_161002:=aK (Kd.R_below (by(with_reducible repeat(first|apply Kd.R_alloc|apply Kd.R_drewN|apply Kd.R_drew));exact(zF HO_161002.out D.out  (.int .i64 am)  (.int .i64 ah)  (.slice b8 ai.length aw))) hb);replace ae:=aK (Kd.R_below (by(with_reducible repeat(first|apply Kd.R_alloc|apply Kd.R_drewN|apply Kd.R_drew));exact(zF ae.out D.out  (.int .i64 am)  (.int .i64 ah)  (.slice b8 ai.length aw))) hb);replace I:=aK (blk_below (g:=a2) (o:= .cells #[.int .i64 au,.int .i64 av,.slice az ar.length a0] 24 (0,0)) (by refine bkR ?_;refine blk_far ?_ X.out _;refine bkR ?_;refine blk_far ?_ X.out _;refine bkR ?_;refine blk_far ?_ X.out _;refine bkR ?_;exact I.out) hb);replace J:=aK (blk_below (g:=aq) (o:= .cells #[.int .i64 0,.int .i64 0,.slice none 0 0] 24 (0,0)) (by refine bkR ?_;refine blk_far ?_ Y.out _;refine bkR ?_;refine blk_far ?_ Y.out _;refine bkR ?_;refine blk_far ?_ Y.out _;refine bkR ?_;exact J.out) hb);replace D:=aK (blk_below (g:=ax) (o:= .cells #[.int .i64 am,.int .i64 ah,.slice b8 ai.length aw] 24 (0,0)) (by refine bkR ?_;refine blk_put (cs:= #[.int .i64 am,.int .i64 ah,.slice b7 L.length cb]) ?_ 2 _ rfl;refine bkR ?_;refine blk_put (cs:= #[.int .i64 am,.int .i64 U,.slice b7 L.length cb]) ?_ 1 _ rfl;refine bkR ?_;refine blk_put (cs:= #[.int .i64 G,.int .i64 U,.slice b7 L.length cb]) ?_ 0 _ rfl;refine bkR ?_;exact D.out) hb);replace HB:=hbB HB hb;(try clear hb))|((with_reducible refine gC 60 rfl ?_);refine cG (some 90) Tryd.func60 #[.int .u8 d2] ?_;(with_reducible refine(recoupref01_Inv.calls k4 d2 i9 nq _ mo.out).mono ?_);rintro e w' ⟨rfl,⟨nd,rfl⟩⟩;refine⟨_,rfl,?_⟩;(try(rw[drewN_self d6];generalize hq_:World.drewN d6 _=d6;have n0_:Aside0 (Kd.R (Kd.int .u8) 5 d6 w.heap.size (fun k_=>some k_≠(.slice b7 L.length cb:Value).ownBlock) (.slice b8 ai.length aw) ai):=⟨by rw[←hq_];exact(by(with_reducible repeat(first|apply Kd.R_alloc|apply Kd.R_drewN|apply Kd.R_drew));exact Kd.R_mono ae.out (fun _ hk=>hk.2))⟩;have n1_:Aside0 (Kd.R (Kd.int .i64) 3 d6 w.heap.size (fun k_=>some k_≠(.slice b1 O.length b3:Value).ownBlock) (.slice (some ⟨a3,0,none⟩) ac.length ca) d8):=⟨by rw[←hq_];exact(kdA HO_10.out)⟩;have n2_:Aside0 (Kd.R (Kd.int .u8) 5 d6 w.heap.size (fun k_=>some k_≠(.slice b8 ai.length aw:Value).ownBlock) (.slice b7 L.length cb) L):=⟨by rw[←hq_];exact(by(with_reducible repeat(first|apply Kd.R_alloc|apply Kd.R_drewN|apply Kd.R_drew));exact Kd.R_mono HO_161002.out (fun _ hk=>hk.2))⟩;have n3_:Aside0 (Kd.R (Kd.int .i64) 3 d6 w.heap.size (fun k_=>some k_≠(.slice (some ⟨a3,0,none⟩) ac.length ca:Value).ownBlock) (.slice b1 O.length b3) O):=⟨by rw[←hq_];exact(by(with_reducible repeat(first|apply Kd.R_alloc|apply Kd.R_drewN|apply Kd.R_drew));exact Kd.R_mono HO_6.out (fun _ hk=>hk.2))⟩;have n4_:Aside0 (d6.heap[a2]? =some (.cells #[.int .i64 au,.int .i64 av,.slice az ar.length a0] 24 (0,0))):=⟨by rw[←hq_];exact(bkA I.out)⟩;have n5_:Aside0 (d6.heap[aq]? =some (.cells #[.int .i64 0,.int .i64 0,.slice none 0 0] 24 (0,0))):=⟨by rw[←hq_];exact(bkA J.out)⟩;have n6_:Aside0 (d6.heap[ax]? =some (.cells #[.int .i64 am,.int .i64 ah,.slice b8 ai.length aw] 24 (0,0))):=⟨by rw[←hq_];exact(bkA D.out)⟩;have n7_:Aside0 (Below w.heap.size w d6):=⟨by rw[←hq_];exact(hbA HB.out)⟩;clear ae HO_10 HO_161002 HO_6 I J D HB hq_;have ae:=n0_;have HO_10:=n1_;have HO_161002:=n2_;have HO_6:=n3_;have I:=n4_;have J:=n5_;have D:=n6_;have HB:=n7_;clear n0_ n1_ n2_ n3_ n4_ n5_ n6_ n7_));obtain⟨e4,e5,e6,fm,fo,fp⟩:=cell3 D)|((with_reducible refine gC 38 rfl ?_);refine cG (some 96) Tryd.func38 #[.agg #[.int .i64 am,.int .i64 ah,.slice b8 ai.length aw],.int .i64 (O.length:Int)] ?_;(with_reducible refine(recoupref03_Row.calls k4 am ah _ _ ai (O.length:Int) d3 nr _ ?side1 ?side2 mq.out).mono ?_);(case side1=>exact kcA (Kd.R_reads' ae.out).2.2);(case side2=>exact(Kd.R_reads' ae.out).2.1);rintro e sa ⟨rm,rfl,cf,hb⟩;refine⟨_,rfl,?_⟩;replace HO_6:=kdB HO_6 hb;replace HO_10:=kdB HO_10 hb;have b9:=aK (Kd.R_lower (Kd.R_new' (Kd.R_new' cf (Kd.R_lt (kdA HO_161002.out))) (Kd.R_lt (kdA ae.out))) (below_size (hbA HB.out)));replace HO_161002:=aK (Kd.R_elder' (kdA HO_161002.out) (Kd.R_base cf) hb);replace ae:=aK (Kd.R_elder' (kdA ae.out) (Kd.R_base cf) hb);replace I:=bkB I hb;replace J:=bkB J hb;replace D:=bkB D hb;replace HB:=hbB HB hb;(try clear hb);(try clear cf);obtain⟨el,er,m7⟩:=Kd.R_slice b9.out;subst m7)|((with_reducible refine gC 61 rfl ?_);refine cG (some 101) Tryd.func61 #[.int .u8 i9,.slice el d3.length er] ?_;(with_reducible refine(recoupref01_Scale.calls k4 i9 _ _ d3 b5 _ ?side1 ?side2 mr.out).mono ?_);(case side1=>exact kcA (Kd.R_reads' b9.out).2.2);(case side2=>exact(Kd.R_reads' b9.out).2.1);rintro e qv ⟨da,rfl,cf,hb⟩;refine⟨_,rfl,?_⟩;replace HO_6:=kdB HO_6 hb;replace HO_10:=kdB HO_10 hb;have eg:=aK (Kd.R_lower (Kd.R_new' (Kd.R_new' (Kd.R_new' cf (Kd.R_lt (kdA HO_161002.out))) (Kd.R_lt (kdA ae.out))) (Kd.R_lt (kdA b9.out))) (below_size (hbA HB.out)));replace HO_161002:=aK (Kd.R_elder' (kdA HO_161002.out) (Kd.R_base cf) hb);replace ae:=aK (Kd.R_elder' (kdA ae.out) (Kd.R_base cf) hb);replace b9:=aK (Kd.R_elder' (kdA b9.out) (Kd.R_base cf) hb);replace I:=bkB I hb;replace J:=bkB J hb;replace D:=bkB D hb;replace HB:=hbB HB hb;(try clear hb);(try clear cf);obtain⟨e7,e8,e9,fq,fs,ft⟩:=cell3 D;have f5:0≤((b4):Int):=of_decide_eq_true asE;have f9:((b4):Int)<((ai.length:Int):Int):=of_decide_eq_true asE;obtain⟨cd,rg,jt,jw,na,rb,jp⟩:=Kd.R_form ae.out za;(first|cases jt|(injection jt with ea_ en_ ec_;(first|subst ea_|(injection ea_ with ea_;subst ea_));subst ec_;clear en_));have mt:=aK jw;have q1:=aK jp;clear jw na jp;obtain⟨gj,nv⟩:=Kd.R_celln 0 ae.out ((b4):Int) f5 f9;replace f5:=eq_true f5;replace f9:=eq_true f9;have n_:=aK (Kd.R_mono (ok':=(fun k_=>some k_≠(.slice b7 L.length cb:Value).ownBlock∧some k_≠(.slice el d3.length er:Value).ownBlock∧some k_≠(da:Value).ownBlock)) ae.out (by first|exact fun k_ hk=>⟨hk.1.1.2,⟨hk.1.2,hk.2⟩⟩|exact fun k_ hk=>⟨hk.1.1,⟨hk.1.2,hk.2⟩⟩));clear ae;have ae:=n_;clear n_;have qo:=of_decide_eq_true c77b0;have nn:=of_decide_eq_true c78b0;obtain⟨jn,rfl⟩:=Int.eq_ofNat_of_zero_le qo;have rx:=(Kd.R_reads' ae.out).2.1;have qp:jn<ai.length:=Int.ofNat_lt.1 nn;have ry:jn≤ai.length:=Nat.le_of_lt qp)|((with_reducible refine gate_builtin (b:= .copy) (xs:= #[.tmp 108,.tmp 109]) rfl ?_);obtain⟨sA,sc,eS,_,hS⟩:=Kd.R_reads eg.out;refine copyL_event (d:= .tmp 108) (s:= .tmp 109) (dT:=22) (sT:=22) rfl rfl Tryd.underlying22 zb ae.out hS (jn:Int) (Int.natCast_nonneg jn) nn rfl eS rfl rfl ?_;intro kw jm hg nh;clear eS hS;have hg:qv.grownBy kw (some cd):=hg;have hp_:Kd.R (Kd.int .u8) 5 kw w.heap.size (fun k_=>some k_≠(.slice b7 L.length cb:Value).ownBlock∧some k_≠(.slice el d3.length er:Value).ownBlock∧some k_≠(da:Value).ownBlock) (.slice (some ⟨cd,0,none⟩) ai.length aw) jd:=(by rw[ke.out];exact nh);replace HO_6:=aK (Kd.R_over' (v:=(.slice (some ⟨cd,0,none⟩) ai.length aw)) (kdA HO_6.out) (Kd.R_typed ae.out) zc hg);replace HO_10:=aK (Kd.R_over' (v:=(.slice (some ⟨cd,0,none⟩) ai.length aw)) (kdA HO_10.out) (Kd.R_typed ae.out) zc hg);replace HO_161002:=aK (Kd.R_after (v:=(.slice (some ⟨cd,0,none⟩) ai.length aw)) (v1:=(.slice (some ⟨cd,0,none⟩) ai.length aw)) (ok:=(fun k_=>some k_≠(.slice el d3.length er:Value).ownBlock∧some k_≠(da:Value).ownBlock)) (by(with_reducible repeat(first|apply Kd.R_alloc|apply Kd.R_drewN|apply Kd.R_drew));exact Kd.R_mono HO_161002.out (by first|exact fun _ hk=>⟨⟨hk.1.2,hk.2⟩,hk.1.1.2⟩|exact fun _ hk=>⟨⟨hk.1.2,hk.2⟩,hk.1.1⟩)) hg (.inl rfl));replace I:=bkG I hg (Kd.R_ne ae.out I.out zc);replace J:=bkG J hg (Kd.R_ne ae.out J.out zc);replace D:=bkG D hg (Kd.R_ne ae.out D.out zc);replace ae:=aK (hp_);replace b9:=aK (Kd.R_after (v:=(.slice (some ⟨cd,0,none⟩) ai.length aw)) (v1:=(.slice (some ⟨cd,0,none⟩) ai.length aw)) (ok:=(fun k_=>some k_≠(.slice b7 L.length cb:Value).ownBlock∧some k_≠(da:Value).ownBlock)) (by(with_reducible repeat(first|apply Kd.R_alloc|apply Kd.R_drewN|apply Kd.R_drew));exact Kd.R_mono b9.out (fun _ hk=>⟨⟨hk.1.1.2,hk.2⟩,hk.1.2⟩)) hg (.inl rfl));replace eg:=aK (Kd.R_after (v:=(.slice (some ⟨cd,0,none⟩) ai.length aw)) (v1:=(.slice (some ⟨cd,0,none⟩) ai.length aw)) (ok:=(fun k_=>some k_≠(.slice b7 L.length cb:Value).ownBlock∧some k_≠(.slice el d3.length er:Value).ownBlock)) (by(with_reducible repeat(first|apply Kd.R_alloc|apply Kd.R_drewN|apply Kd.R_drew));exact Kd.R_mono eg.out (fun _ hk=>⟨⟨hk.1.1.2,hk.2⟩,hk.1.2⟩)) hg (.inl rfl));replace HB:=aK ((HB.out.grown hg HB.out.size (fun k_ hk_=>by injection hk_ with hk_;rw[←hk_];exact mt.out):Below w.heap.size w kw));clear hg nh hp_))
                     go_loopg [16] k4 (fun kq qr w'=> ∃(d7:List Int) (ap:Int) (ao:List Int) (u161002:Value),qr= .int .i64 ap∧Aside0 (recoupref04_Reduce.l3 kq O aj (O.length:Int) d7 ap am ah ao=some (r1,r2,r3,r4,r5))∧Aside0 (kq≤k4)∧Aside0 (Kd.R (Kd.int .i64) 3 w' w.heap.size (fun _=>True) (.slice b1 O.length b3) O)∧Aside0 (Kd.R (Kd.int .u8) 5 w' w.heap.size (fun k_=>some k_≠(u161002:Value).ownBlock) da d7)∧Aside0 (Kd.R (Kd.int .u8) 5 w' w.heap.size (fun k_=>some k_≠(da:Value).ownBlock) u161002 ao)∧Aside0 (w'.heap[a2]? =some (.cells #[.int .i64 au,.int .i64 av,(.slice az ar.length a0)] 24 (0,0)))∧Aside0 (w'.heap[aq]? =some (.cells #[.int .i64 0,.int .i64 0,(.slice none 0 0)] 24 (0,0)))∧Aside0 (w'.heap[ax]? =some (.cells #[.int .i64 am,.int .i64 ah,u161002] 24 (0,0)))∧Aside0 (Below w.heap.size w w'))
                     case atStart=>exact⟨(b5),(0),(jd),(.slice (some ⟨cd,0,none⟩) ai.length aw),rsE,H',⟨Nat.le_refl _⟩,⟨by(with_reducible repeat(first|apply Kd.R_alloc|apply Kd.R_drewN|apply Kd.R_drew));exact Kd.R_mono HO_6.out (fun _ hk=>trivial)⟩,⟨by(with_reducible repeat(first|apply Kd.R_alloc|apply Kd.R_drewN|apply Kd.R_drew));exact Kd.R_mono eg.out (fun _ hk=>hk.2)⟩,⟨by(with_reducible repeat(first|apply Kd.R_alloc|apply Kd.R_drewN|apply Kd.R_drew));exact Kd.R_mono ae.out (fun _ hk=>hk.2.2)⟩,⟨bkA I.out⟩,⟨bkA J.out⟩,⟨bkA D.out⟩,⟨hbA HB.out⟩⟩
                     case round=>
                      clear H'
                      (try clear c1);(try clear c2);(try clear p2 p2);(try clear c3);(try clear c4);(try clear c5);(try clear p5);(try clear q5);(try clear ql);(try clear o8);(try clear c6);(try clear p6 p6);(try clear q6);(try clear qm);(try clear o9);(try clear c7);(try clear p7);(try clear q7);(try clear qn);(try clear pa);(try clear c8);(try clear gp);(try clear gq);(try clear oz);(try clear db);(try clear c18b0);(try clear im);(try clear io);(try clear ip);(try clear iq);(try clear eh);(try clear jh);(try clear ea);(try clear c29b0);(try clear de);(try clear c31b0);(try clear c31b1);(try clear ki);(try clear kj);(try clear kk);(try clear kl);(try clear km);(try clear o0);(try clear kn);(try clear ko);(try clear eb);(try clear c45b0);(try clear c45b1);(try clear mu);(try clear mv);(try clear en);(try clear c49b0);(try clear c49b1);(try clear eo);(try clear c50b0);(try clear c50b1);(try clear mw);(try clear mx);(try clear ep);(try clear c56b0);(try clear gr);(try clear c57b0);(try clear gs);(try clear c58b0);(try clear p59 p59);(try clear f6 f6);(try clear nj);(try clear nc);(try clear o1);(try clear o2);(try clear p64);(try clear gt);(try clear c65b0);(try clear c65b1);(try clear f3);(try clear c66b0);(try clear c66b1);(try clear p67 p67);(try clear f7 f7);(try clear nk);(try clear ne);(try clear gu);(try clear c68b0);(try clear gv);(try clear c69b0);(try clear p70 p70);(try clear f8 f8);(try clear nl);(try clear nf);(try clear gw);(try clear c77b0);(try clear gx);(try clear c78b0);(try clear f5 f5);(try clear f9 f9);(try clear nm);(try clear ng);(try clear o3);(try clear o4);(try clear a4 a5 a6 ba bb bc);(try clear a7 a8 a9 bd be bf);(try clear bg bh bi bm bn bo);(try clear bj bk bl bp bq br);(try clear ch ci cj cq cr ct);(try clear ck cl cm cu cv cw);(try clear cn co cp cx cy cz);(try clear df dg dh dl dm dn);(try clear di dj dk dp dq dr);(try clear es et eu fa fb fc);(try clear ev ew ex fd fe ff);(try clear ey ez e0 fg fh fi);(try clear bu bv bw bx bz b0);(try clear e1 e2 e3 fj fk fl);(try clear e4 e5 e6 fm fo fp);(try clear e7 e8 e9 fq fs ft);(try clear gh);(try clear ek);(try clear gi);(try clear gj)
                      obtain⟨d7,ap,ao,u161002,rfl,HA,em,HO_6,HO_14,HO_161002,I,J,D,HB⟩:=hrel
                      cases gk with
                      |zero=>exact absurd HA.out (by simp[recoupref04_Reduce.l3])
                      |succ k5=>
                       have H:=HA.out;clear HA;simp only[recoupref04_Reduce.l3]at H;by_cases dd:ap<am
                       ·rw[if_pos dd]at H
                        have c100b0:decide (ap<am)=true:=decide_eq_true dd;clear dd;by_cases c9:ap=(O.length:Int)
                        ·rw[if_pos c9]at H
                         have c101b0:(ap==(O.length:Int))=true:=beq_iff_eq.mpr c9;have c101b1:(ap !=(O.length:Int))=false:=bne_eq_false_iff_eq.mpr c9;clear c9;have H':=aK H;clear H;have nw:=aa.out;have oa:=X.out;have nx:=ab.out;have ob:=Y.out;obtain⟨gy,gz,g0,g4,g5,g6⟩:=cell3 D;go_wp2
                         go_roundg k5
                         case measure=>have:=b6.out;have:=a1.out;have:=b2.out;have:=d9.out;have:=em.out;omega
                         case rel=>exact⟨(d7),(wrap64 (ap+1)),(ao),(u161002),rsE,H',⟨by have:=b6.out;have:=a1.out;have:=b2.out;have:=d9.out;have:=em.out;omega⟩,⟨kdA HO_6.out⟩,⟨kdA HO_14.out⟩,⟨kdA HO_161002.out⟩,⟨bkA I.out⟩,⟨bkA J.out⟩,⟨bkA D.out⟩,⟨hbA HB.out⟩⟩
                        ·rw[if_neg c9]at H
                         have c101b0:(ap==(O.length:Int))=false:=beq_eq_false_iff_ne.mpr c9;have c101b1:(ap !=(O.length:Int))=true:=bne_iff_ne.mpr c9;obtain⟨d4,mi,H⟩:=bindO H
                         (try dsimp only at H)
                         have H':=aK H;clear H;have ny:=aa.out;have oc:=X.out;have nz:=ab.out;have od:=Y.out;obtain⟨g1,g2,g3,g7,g8,g9⟩:=cell3 D;obtain⟨ia,ir,kp⟩:=Kd.R_slice HO_161002.out;subst kp
                         go_wp2_with (first|((with_reducible refine gC 40 rfl ?_);refine cG (some 123) Tryd.func40 #[.agg #[.int .i64 am,.int .i64 ah,.slice ia ao.length ir],.int .i64 ap,.int .i64 aj] ?_;(with_reducible refine(recoupref03_At.calls am ah _ _ ao ap aj d4 _ ?side1 ?side2 mi.out).mono ?_);(case side1=>exact kcA (Kd.R_reads' HO_161002.out).2.2);(case side2=>exact(Kd.R_reads' HO_161002.out).2.1);rintro e ro ⟨rfl,hb⟩;refine⟨_,rfl,?_⟩;replace HO_6:=kdB HO_6 hb;replace HO_14:=kdB HO_14 hb;replace HO_161002:=kdB HO_161002 hb;replace I:=bkB I hb;replace J:=bkB J hb;replace D:=bkB D hb;replace HB:=hbB HB hb;(try clear hb)))
                         go_loopg [18] k5 (fun kq qt w'=> ∃(ay:List Int) (al:Int) (Z:List Int) (u161002:Value),qt= .int .i64 al∧Aside0 (recoupref04_Reduce.l4 kq O aj (O.length:Int) ay ap d4 al am ah Z=some (r1,r2,r3,r4,r5))∧Aside0 (kq≤k5)∧Aside0 (Kd.R (Kd.int .i64) 3 w' w.heap.size (fun _=>True) (.slice b1 O.length b3) O)∧Aside0 (Kd.R (Kd.int .u8) 5 w' w.heap.size (fun k_=>some k_≠(u161002:Value).ownBlock) da ay)∧Aside0 (Kd.R (Kd.int .u8) 5 w' w.heap.size (fun k_=>some k_≠(da:Value).ownBlock) u161002 Z)∧Aside0 (w'.heap[a2]? =some (.cells #[.int .i64 au,.int .i64 av,(.slice az ar.length a0)] 24 (0,0)))∧Aside0 (w'.heap[aq]? =some (.cells #[.int .i64 0,.int .i64 0,(.slice none 0 0)] 24 (0,0)))∧Aside0 (w'.heap[ax]? =some (.cells #[.int .i64 am,.int .i64 ah,u161002] 24 (0,0)))∧Aside0 (Below w.heap.size w w'))
                         case atStart=>exact⟨(d7),(0),(ao),(.slice ia ao.length ir),rsE,H',⟨Nat.le_refl _⟩,⟨kdA HO_6.out⟩,⟨kdA HO_14.out⟩,⟨kdA HO_161002.out⟩,⟨bkA I.out⟩,⟨bkA J.out⟩,⟨bkA D.out⟩,⟨hbA HB.out⟩⟩
                         case round=>
                          clear H'
                          (try clear c1);(try clear c2);(try clear p2 p2);(try clear c3);(try clear c4);(try clear c5);(try clear p5 p5);(try clear q5 q5);(try clear ql);(try clear o8);(try clear c6);(try clear p6 p6);(try clear q6 q6);(try clear qm);(try clear o9);(try clear c7);(try clear p7 p7);(try clear q7 q7);(try clear qn);(try clear pa);(try clear c8);(try clear rv);(try clear gp);(try clear gq);(try clear oz);(try clear db);(try clear c18b0);(try clear im);(try clear io);(try clear ip);(try clear iq);(try clear eh);(try clear jh);(try clear ea);(try clear c29b0);(try clear de);(try clear c31b0);(try clear c31b1);(try clear ki);(try clear kj);(try clear kk);(try clear kl);(try clear km);(try clear o0);(try clear kn);(try clear ko);(try clear eb);(try clear c45b0);(try clear c45b1);(try clear mu);(try clear mv);(try clear en);(try clear c49b0);(try clear c49b1);(try clear eo);(try clear c50b0);(try clear c50b1);(try clear mw);(try clear mx);(try clear ep);(try clear c56b0);(try clear gr);(try clear c57b0);(try clear gs);(try clear c58b0);(try clear p59 p59);(try clear f6 f6);(try clear nj);(try clear nc);(try clear o1);(try clear o2);(try clear p64 p64);(try clear gt);(try clear c65b0);(try clear c65b1);(try clear f3);(try clear c66b0);(try clear c66b1);(try clear p67 p67);(try clear f7 f7);(try clear nk);(try clear ne);(try clear gu);(try clear c68b0);(try clear gv);(try clear c69b0);(try clear p70 p70);(try clear f8 f8);(try clear nl);(try clear nf);(try clear gw);(try clear c77b0);(try clear gx);(try clear c78b0);(try clear f5 f5);(try clear f9 f9);(try clear nm);(try clear ng);(try clear o3);(try clear o4);(try clear dd);(try clear c100b0);(try clear c9);(try clear c101b0);(try clear c101b1);(try clear q2);(try clear q3);(try clear q4);(try clear q8);(try clear gy gz g0 g4 g5 g6);(try clear g1 g2 g3 g7 g8 g9);(try clear a4 a5 a6 ba bb bc);(try clear a7 a8 a9 bd be bf);(try clear bg bh bi bm bn bo);(try clear bj bk bl bp bq br);(try clear ch ci cj cq cr ct);(try clear ck cl cm cu cv cw);(try clear cn co cp cx cy cz);(try clear df dg dh dl dm dn);(try clear di dj dk dp dq dr);(try clear es et eu fa fb fc);(try clear ev ew ex fd fe ff);(try clear ey ez e0 fg fh fi);(try clear bu bv bw bx bz b0);(try clear e1 e2 e3 fj fk fl);(try clear e4 e5 e6 fm fo fp);(try clear e7 e8 e9 fq fs ft);(try clear gh);(try clear ek);(try clear gi);(try clear gj)
                          obtain⟨ay,al,Z,u161002,rfl,HA,jf,HO_6,HO_14,HO_161002,I,J,D,HB⟩:=hrel
                          cases gk with
                          |zero=>exact absurd HA.out (by simp[recoupref04_Reduce.l4])
                          |succ k6=>
                           have H:=HA.out;clear HA;simp only[recoupref04_Reduce.l4]at H;by_cases ec:al<ah
                           ·rw[if_pos ec]at H
                            have c111b0:decide (al<ah)=true:=decide_eq_true ec;clear ec;obtain⟨ak,ej⟩: ∃j_:Int,(wrap64 ((wrap64 (ap*ah))+al))=j_:=⟨_,rfl⟩
                            replace H:(if 0≤(ak)then(if(ak)<(Z.length:Int)then(if 0≤al then(if al<(ay.length:Int)then((recoupref01_Mul.f k6 d4 (rd ay al)).bind fun d5=>(recoupref04_Reduce.l4 k6 O aj (O.length:Int) ay ap d4 (wrap64 (al+1)) am ah (Z.set ((ak):Int).toNat (Go.bits .xor .u8 (rd Z (ak)) d5))))else(none))else(none))else(none))else(none))=some (r1,r2,r3,r4,r5):=by first|(rw[ej]at H;exact H)|(simp only[ej]at H⊢;exact H)
                            have hji112w:(IntKind.i64.wrap ((wrap64 (ap*ah))+al))=ak:=(i64_w _).trans ej;by_cases ga:0≤(ak)
                            ·rw[if_pos ga]at H
                             have c113b0:decide (0≤(ak))=true:=decide_eq_true ga;clear ga;by_cases gb:(ak)<(Z.length:Int)
                             ·rw[if_pos gb]at H
                              have c114b0:decide ((ak)<(Z.length:Int))=true:=decide_eq_true gb;clear gb;by_cases gc:0≤al
                              ·rw[if_pos gc]at H
                               have c115b0:decide (0≤al)=true:=decide_eq_true gc;clear gc;by_cases ge:al<(ay.length:Int)
                               ·rw[if_pos ge]at H
                                have c116b0:decide (al<(ay.length:Int))=true:=decide_eq_true ge;clear ge;obtain⟨d5,mj,H⟩:=bindO H
                                (try dsimp only at H)
                                obtain⟨j0,d0⟩: ∃y_:List Int,y_=(Z.set ((ak):Int).toNat (Go.bits .xor .u8 (rd Z (ak)) d5)):=⟨_,rfl⟩
                                replace H:(recoupref04_Reduce.l4 k6 O aj (O.length:Int) ay ap d4 (wrap64 (al+1)) am ah j0)=some (r1,r2,r3,r4,r5):=by first|(rw[d0];with_reducible exact H)|(have H2_:=(Option.bind_some _ _).symm.trans H;rw[d0];with_reducible exact H2_)|(have H2_:=(Option.bind_some _ _).symm.trans H;with_reducible exact H2_)|with_reducible exact H|(rw[d0];exact H)|exact H
                                have kg:=aK d0;clear d0;have H':=aK H;clear H;have n0:=aa.out;have oe:=X.out;have n1:=ab.out;have og:=Y.out;obtain⟨kx,ky,kz,lr,ls,lt⟩:=cell3 D
                                try go_wp2
                                replace HO_6:=aK (Kd.R_drew HO_6.out);replace HO_14:=aK (Kd.R_drew HO_14.out);replace HO_161002:=aK (Kd.R_drew HO_161002.out);replace I:=aK (blk_drew I.out);replace J:=aK (blk_drew J.out);replace D:=aK (blk_drew D.out);replace HB:=aK (below_drew1 HB.out);obtain⟨ou,it,iv⟩:=Kd.R_slice HO_161002.out
                                (first|subst iv|(injection iv with f1_ f2_ f3_;have f4_:=f1_.symm;have f5_:=f3_.symm;clear f1_ f2_ f3_;subst f4_;subst f5_))
                                have i3:0≤((ak):Int):=of_decide_eq_true asE;have i6:(ak)<(Z.length:Int):=of_decide_eq_true asE;obtain⟨il,my,dt⟩:=Kd.at_int (Kd.R_reads' HO_161002.out).2.2 (ak) i3 i6
                                cases my
                                replace i3:=eq_true i3;replace i6:=eq_true i6;obtain⟨ov,o7,iw⟩:=Kd.R_slice HO_14.out
                                (first|subst iw|(injection iw with f1_ f2_ f3_;have f4_:=f1_.symm;have f5_:=f3_.symm;clear f1_ f2_ f3_;subst f4_;subst f5_))
                                have i4:0≤(al:Int):=of_decide_eq_true asE;have i7:al<(ay.length:Int):=of_decide_eq_true asE;obtain⟨kh,mz,fu⟩:=Kd.at_int (Kd.R_reads' HO_14.out).2.2 al i4 i7
                                cases mz
                                replace i4:=eq_true i4;replace i7:=eq_true i7;refine start_ (n:=19) (S:=fun w'=>w'.cell? ⟨ax,0,none⟩=some (.int .i64 am)∧w'.cell? ⟨ax,1,none⟩=some (.int .i64 ah)∧w'.cell? ⟨ax,2,none⟩=some (.slice (some il) Z.length it)∧w'.cell? (il.add ((ak)).toNat)=some (.int .u8 (rd Z (ak)))∧w'.cell? (kh.add (al).toNat)=some (.int .u8 (rd ay al))) (ds:= [18]) (.replicate 19 false) zb rfl rfl ⟨(blk_cell D.out 0).trans rfl,(blk_cell D.out 1).trans rfl,(blk_cell D.out 2).trans rfl,dt,fu⟩ (fun hHeld=>?_);refine with_tabW recoupref04_Reduce.tab32 recoupref04_Reduce.bits32 (fun HT_ HW_=>?_);generalize wr.drew=rp at HO_6 HO_14 HO_161002 I J D HB dt fu hHeld⊢;refine pu 0 (some 130) (mB 19 1) HT_ ?_;refine pu 2 (some 132) (mB 19 5) HT_ ?_;refine pu 3 (some 133) (mB 19 13) HT_ ?_;refine pu 6 (some 136) (mB 19 77) HT_ ?_;refine pu 10 (some 140) (mB 19 1101) HT_ ?_;refine pu 11 (some 141) (mB 19 3149) HT_ ?_;refine pu 12 (some 142) (mB 19 7245) HT_ ?_;refine pu 13 (some 143) (mB 19 15437) HT_ ?_;refine tk5 1 (some 131) (mB 19 15439) HT_ HW_ hHeld ?_;refine tk5 4 (some 134) (mB 19 15455) HT_ HW_ hHeld ?_;refine pu 5 (some 135) (mB 19 15487) HT_ ?_;refine pu 7 (some 137) (mB 19 15615) HT_ ?_;refine pu 8 (some 138) (mB 19 15871) HT_ ?_;refine tk5 9 (some 139) (mB 19 16383) HT_ HW_ hHeld ?_;refine tk5 14 (some 144) (mB 19 32767) HT_ HW_ hHeld ?_;refine zoh 15 (some 145) (mB 19 65535) HT_ fun K hK=>?_;refine goes_ Tryd.func62 zb rfl #[.int .u8 d4,.int .u8 (rd ay al)] ze rfl rfl (by(try simp only[List.map_toArray,List.map_cons,List.map_nil]);first|done|rfl|(simp only[List.length_drop,List.length_take];rfl)) ?_;with_reducible refine(recoupref01_Mul.calls k6 d4 (rd ay al) d5 _ mj.out).mono ?_
                                rintro e w' ⟨rfl,⟨nd,rfl⟩⟩;refine⟨_,rfl,?_⟩;have i2:0≤((ak):Int):=of_decide_eq_true asE;have i5:((ak):Int)<((Z.length:Int):Int):=of_decide_eq_true asE;obtain⟨ei,o6,iu,ix,ks,o5,ie⟩:=Kd.R_form HO_161002.out za
                                (first|cases iu|(injection iu with ea_ en_ ec_;(first|subst ea_|(injection ea_ with ea_;subst ea_));subst ec_;clear en_))
                                have ow:=aK ix;have j5:=aK ie;clear ix ks ie
                                (first|simp only[add_plain]at dt|skip)
                                obtain⟨ni,nb⟩:=Kd.R_celln 0 HO_161002.out ((ak):Int) i2 i5;replace i2:=eq_true i2;replace i5:=eq_true i5;have fy:=Kd.R_putn HO_161002.out ((ak):Int) (Go.bits .xor .u8 (rd Z (ak)) d5);rw[←kg.out]at fy
                                have ka:=aK fy;clear fy;refine hK.out _ _ ⟨(blk_cell D.out 0).trans rfl,(blk_cell D.out 1).trans rfl,(blk_cell D.out 2).trans rfl,hHeld.2.2.2.1,hHeld.2.2.2.2⟩ (fun hHeld=>?_);clear hK K;refine znm (some 145) ?_;refine pu 16 (some 146) (mB 19 131071) HT_ ?_;refine pu 17 (some 147) (mB 19 262143) HT_ ?_;refine zlh 18 (none) (mB 19 524287) HT_ fun K hK=>?_;refine zsk ?_;refine hK.out _ _ ?_;clear hK K;refine done_ (done_of HT_.out zb) ?_
                                try go_wp2
                                go_roundg k6
                                case measure=>have:=b6.out;have:=a1.out;have:=b2.out;have:=d9.out;have:=em.out;have:=jf.out;omega
                                case rel=>exact⟨(ay),(wrap64 (al+1)),(j0),(.slice (some ⟨ei,0,none⟩) Z.length it),rsE,H',⟨by have:=b6.out;have:=a1.out;have:=b2.out;have:=d9.out;have:=em.out;have:=jf.out;omega⟩,⟨by(with_reducible repeat(first|apply Kd.R_alloc|apply Kd.R_drewN|apply Kd.R_drew));exact Kd.R_mono (Kd.R_far (p:=⟨ei,((ak):Int).toNat,none⟩) (Kd.R_types HO_6.out j5.out zc) (fun _ hk=>hk.2) (.int .u8 (Go.bits .xor .u8 (rd Z (ak)) d5))) (fun _ hk=>trivial)⟩,⟨by(with_reducible repeat(first|apply Kd.R_alloc|apply Kd.R_drewN|apply Kd.R_drew));exact Kd.R_mono (Kd.R_far (p:=⟨ei,((ak):Int).toNat,none⟩) (Kd.R_mono HO_14.out (fun k_ hk=>(⟨hk,fun e_=>hk zk⟩:_∧k_≠ei))) (fun _ hk=>hk.2) (.int .u8 (Go.bits .xor .u8 (rd Z (ak)) d5))) (fun _ hk=>hk.1)⟩,⟨kdA ka.out⟩,⟨by refine bkR ?_;refine blk_far ?_ (by have h_:=Kd.R_ne HO_161002.out I.out zc;intro e_;exact h_ zk) _;refine bkR ?_;exact I.out⟩,⟨by refine bkR ?_;refine blk_far ?_ (by have h_:=Kd.R_ne HO_161002.out J.out zc;intro e_;exact h_ zk) _;refine bkR ?_;exact J.out⟩,⟨by refine bkR ?_;refine blk_far ?_ (by have h_:=Kd.R_ne HO_161002.out D.out zc;intro e_;exact h_ zk) _;refine bkR ?_;exact D.out⟩,⟨hbA HB.out⟩⟩
                               ·rw[if_neg ge]at H
                                exact absurd H zd
                              ·rw[if_neg gc]at H
                               exact absurd H zd
                             ·rw[if_neg gb]at H
                              exact absurd H zd
                            ·rw[if_neg ga]at H
                             exact absurd H zd
                           ·rw[if_neg ec]at H
                            have c111b0:decide (al<ah)=false:=decide_eq_false ec;clear ec;have H':=aK H;clear H;have n2:=aa.out;have oh:=X.out;have n3:=ab.out;have ol:=Y.out;obtain⟨k0,k2,k7,lu,lv,lw⟩:=cell3 D;go_wp2
                            go_roundg k6
                            case measure=>have:=b6.out;have:=a1.out;have:=b2.out;have:=d9.out;have:=em.out;have:=jf.out;omega
                            case rel=>exact⟨(ay),(wrap64 (ap+1)),(Z),(u161002),rsE,H',⟨by have:=b6.out;have:=a1.out;have:=b2.out;have:=d9.out;have:=em.out;have:=jf.out;omega⟩,⟨kdA HO_6.out⟩,⟨kdA HO_14.out⟩,⟨kdA HO_161002.out⟩,⟨bkA I.out⟩,⟨bkA J.out⟩,⟨bkA D.out⟩,⟨hbA HB.out⟩⟩
                       ·rw[if_neg dd]at H
                        have c100b0:decide (ap<am)=false:=decide_eq_false dd;clear dd;by_cases gf:O.length<17592186044416
                        ·rw[if_pos gf]at H
                         have jg:=aK gf;clear gf;obtain⟨jz,dz⟩: ∃y_:List Int,y_=(O++ [aj]):=⟨_,rfl⟩
                         replace H:(recoupref04_Reduce.l0 k5 jz (wrap64 (aj+1)) am ah ao)=some (r1,r2,r3,r4,r5):=by first|(rw[dz];with_reducible exact H)|(have H2_:=(Option.bind_some _ _).symm.trans H;rw[dz];with_reducible exact H2_)|(have H2_:=(Option.bind_some _ _).symm.trans H;with_reducible exact H2_)|with_reducible exact H|(rw[dz];exact H)|exact H
                         have kf:=aK dz;clear dz;have H':=aK H;clear H;have n4:=aa.out;have om:=X.out;have n5:=ab.out;have oo:=Y.out;obtain⟨k8,k9,la,lx,ly,lz⟩:=cell3 D
                         go_wp2_with (first|((with_reducible refine gate_builtin (b:= .append) (xs:= #[.tmp 148,.tmp 150]) rfl ?_);(try(refine gate_guard ze ?_;dsimp only));at_builtin;refine Kd.R_append (Kd.int .i64) (w0:=w) w.heap.size rfl (.tmp 148) (.tmp 150) 42 3 (.int .i64 0) 8 rfl Tryd.underlying42 info3 rfl zc za (.slice b1 O.length b3) O aj [.int .i64 aj] (fun _=>True) (fun _=>False) rfl rfl ?aP (fun _ hk=>hk.elim) ?aF ?aO ?aB ?aS ?aL ?_;(case aP=>exact rfl);(case aB=>exact(hbA HB.out));(case aF=>exact(fun _ _=>trivial));(case aO=>exact(kdA HO_6.out));(case aS=>exact(below_size (hbA HB.out)));(case aL=>have:=jg.out;omega);intro rn rq ho hb hg hat;rw[←kf.out]at ho;have n0_:=aK (Kd.R_over' (kdA HO_14.out) (Kd.R_typed (kdA HO_6.out)) zc hg);have n1_:=aK (Kd.R_over' (kdA HO_161002.out) (Kd.R_typed (kdA HO_6.out)) zc hg);have n2_:=aK (blk_grown (g:=a2) (o:= .cells #[.int .i64 au,.int .i64 av,.slice az ar.length a0] 24 (0,0)) (bkA I.out) hg (Kd.R_ne HO_6.out I.out zc));have n3_:=aK (blk_grown (g:=aq) (o:= .cells #[.int .i64 0,.int .i64 0,.slice none 0 0] 24 (0,0)) (bkA J.out) hg (Kd.R_ne HO_6.out J.out zc));have n4_:=aK (blk_grown (g:=ax) (o:= .cells #[.int .i64 am,.int .i64 ah,u161002] 24 (0,0)) (bkA D.out) hg (Kd.R_ne HO_6.out D.out zc));have n5_:=aK (hb);have n6_:=aK (ho);clear HO_14;clear HO_161002;clear I;clear J;clear D;clear HB;clear HO_6;have HO_14:=n0_;have HO_161002:=n1_;have I:=n2_;have J:=n3_;have D:=n4_;have HB:=n5_;have j9:=n6_;clear n0_ n1_ n2_ n3_ n4_ n5_ n6_;clear ho hb hg hat))
                         go_roundg k5
                         case measure=>have:=b6.out;have:=a1.out;have:=b2.out;have:=d9.out;have:=em.out;omega
                         case rel=>exact⟨(jz),(wrap64 (aj+1)),(am),(ah),(ao),(u161002),rsE,H',⟨by have:=b6.out;have:=a1.out;have:=b2.out;have:=d9.out;have:=em.out;omega⟩,⟨kdA j9.out⟩,⟨by(with_reducible repeat(first|apply Kd.R_alloc|apply Kd.R_drewN|apply Kd.R_drew));exact Kd.R_mono HO_161002.out (fun _ hk=>trivial)⟩,⟨bkA I.out⟩,⟨bkA J.out⟩,⟨bkA D.out⟩,⟨hbA HB.out⟩⟩
                        ·rw[if_neg gf]at H
                         exact absurd H zd
                    ·rw[if_neg gx]at H
                     exact absurd H zd
                   ·rw[if_neg gw]at H
                    exact absurd H zd
                  ·rw[if_neg gv]at H
                   exact absurd H zd
                 ·rw[if_neg gu]at H
                  exact absurd H zd
                ·rw[if_neg f3]at H
                 exact absurd H zd
               ·rw[if_neg gt]at H
                exact absurd H zd
           ·rw[if_neg eo]at H
            exact absurd H zd
          ·rw[if_neg en]at H
           exact absurd H zd
      ·replace eh:=Bool.eq_false_iff.mpr eh;subst eh;rw[if_neg nofT]at H
       simp only[Option.some.injEq,Prod.mk.injEq]at H;obtain⟨rfl,rfl,rfl,rfl,rfl⟩:=H;have n6:=aa.out;have op:=X.out;have n7:=ab.out;have oq:=Y.out;obtain⟨lb,lc,ld,l5,l6,l7⟩:=cell3 D;have n8:=bt.out;have os:=bs.out;obtain⟨le,lf,lg,l8,l9,ma⟩:=cell3 J;obtain⟨fw,f4,kr⟩:=Kd.R_slice HO_161002.out;subst kr;go_wp2;refine bodyPost_ret (results_ctt rfl _ _ aq 24 #[.int .i64 G,.int .i64 U,.slice fw L.length f4] (0,0) _ rfl (by refine bkR ?_;refine blk_put (cs:= #[.int .i64 G,.int .i64 U,.slice none 0 0]) ?_ 2 _ rfl;refine bkR ?_;refine blk_put (cs:= #[.int .i64 G,.int .i64 0,.slice none 0 0]) ?_ 1 _ rfl;refine bkR ?_;refine blk_put (cs:= #[.int .i64 0,.int .i64 0,.slice none 0 0]) ?_ 0 _ rfl;refine bkR ?_;exact J.out) Tryd.underlying24 rfl zb) rfl ?_;exact⟨_,_,rfE,by(with_reducible repeat(first|apply Kd.R_alloc|apply Kd.R_drewN|apply Kd.R_drew));exact Kd.R_mono (Kd.R_far (p:=⟨aq,2,none⟩) (Kd.R_far (p:=⟨aq,1,none⟩) (Kd.R_far (p:=⟨aq,0,none⟩) (Kd.R_types HO_161002.out J.out zc) (fun _ hk=>hk.2) (.int .i64 G)) (fun _ hk=>hk.2) (.int .i64 U)) (fun _ hk=>hk.2) (.slice fw L.length f4)) (fun _ hk=>trivial),by(with_reducible repeat(first|apply Kd.R_alloc|apply Kd.R_drewN|apply Kd.R_drew));exact Kd.R_mono (Kd.R_far (p:=⟨aq,2,none⟩) (Kd.R_far (p:=⟨aq,1,none⟩) (Kd.R_far (p:=⟨aq,0,none⟩) (Kd.R_types HO_6.out J.out zc) (fun _ hk=>hk.2) (.int .i64 G)) (fun _ hk=>hk.2) (.int .i64 U)) (fun _ hk=>hk.2) (.slice fw L.length f4)) (fun _ hk=>trivial),hbA HB.out⟩
 ·replace c3:=Bool.eq_false_iff.mpr c3;subst c3;rw[if_neg nofT]at H
  simp only[Option.some.injEq,Prod.mk.injEq]at H;obtain⟨rfl,rfl,rfl,rfl,rfl⟩:=H
  go_enter Tryd.func39,Tryd.ntmps39
  go_wp2_with (first|((with_reducible refine gD 1 rfl ?_);(try(refine gate_guard ze ?_;dsimp only));refine bE 1 #[.int .i64 au,.int .i64 av,.slice az ar.length a0] 24 ?_;intro a2 hg rr hbox hb;have I:=aK (hbox);have j6:=hbS HB hg;have j2:=hbS HB hg;replace HB:=hbB HB hb;clear hb hbox hg)|((with_reducible refine gD 2 rfl ?_);(try(refine gate_guard ze ?_;dsimp only));refine bE 2 #[.int .i64 0,.int .i64 0,.slice none 0 0] 24 ?_;intro aq hg rt hbox hb;have J:=aK (hbox);have j7:=hbS HB hg;have j4:=hbS HB hg;replace HB:=hbB HB hb;have bs:=neL I hg;have bt:=neG I hg;replace I:=bkB I hb;clear hb hbox hg;have n9:=bs.out;have ot:=bt.out;obtain⟨lh,ll,lm,mb,mc,me⟩:=cell3 I)|((with_reducible refine gC 37 rfl ?_);refine cG (some 20) Tryd.func37 #[.agg #[.int .i64 au,.int .i64 av,.slice az ar.length a0]] ?_;(with_reducible refine(recoupref03_Right.calls au av _ _ ar false _ ?side1 ?side2 A2.out).mono ?_);(case side1=>exact kcB fz HB);(case side2=>exact fx.out);rintro e ru ⟨rfl,hb⟩;refine⟨_,rfl,?_⟩;replace I:=bkB I hb;replace J:=bkB J hb;replace HB:=hbB HB hb;(try clear hb);obtain⟨ln,lp,lq,mf,mg,mh⟩:=cell3 J))
  refine bodyPost_ret (results_ctt rfl _ _ aq 24 #[.int .i64 0,.int .i64 0,.slice none 0 0] (0,0) _ rfl (by refine bkR ?_;refine blk_put (cs:= #[.int .i64 0,.int .i64 0,.slice none 0 0]) ?_ 2 _ rfl;refine bkR ?_;refine blk_put (cs:= #[.int .i64 0,.int .i64 0,.slice none 0 0]) ?_ 1 _ rfl;refine bkR ?_;refine blk_put (cs:= #[.int .i64 0,.int .i64 0,.slice none 0 0]) ?_ 0 _ rfl;refine bkR ?_;exact J.out) Tryd.underlying24 rfl zb) rfl ?_;exact⟨_,_,rfE,nilE,nilE,hbA HB.out⟩
end Go.Proofs.YtkagobkedifhkaaDoor.Q
namespace Go.Proofs.YtkagobkedifhkaaDoor.Q
open Go.RowKit Go.Proofs.YtkagobkedifhkaaDoorW.PrintWords Go.Proofs.YtkagobkedifhkaaDoorW.PrintLast Go.Proofs.YtkagobkedifhkaaDoorW.PrintMore
attribute [local go_sem] max2_int min2_int max_two min_two max_three min_three max_four min_four
set_option linter.unusedVariables false
set_option linter.unusedSimpArgs false
def recoupref04_Rank.f(k:Nat)(G:Int)(I:Int)(J:List Int):Option (Int×Int):=(recoupref04_Reduce.f k G I J).bind fun D=>(some ((D.2.2.2.1.length:Int),D.2.2.2.2))
set_option maxHeartbeats 8000000 in
set_option maxRecDepth 100000 in
theorem recoupref04_Rank.calls(k:Nat)(I:Int)(J:Int)(Y:Option Addr)(Z:Nat)(G:List Int)(r1:Int)(r2:Int)(w:World)(ac:Kd.C (Kd.int .u8) w Y G.length G)(ab:G.length≤Z)(h:recoupref04_Rank.f k I J G=some (r1,r2)):
 Calls Tryd.prog 81 #[.agg #[.int .i64 I,.int .i64 J,.slice Y G.length Z]] w fun e w'=>e= .returned (.tuple #[.int .i64 r1,.int .i64 r2])∧Below w.heap.size w w':=by
 have be:=Tryd.underlying24;have ag:=aK ac;have af:=aK ab;clear ac ab;have HB:=aK (Below.refl w.heap.size w);have H:((recoupref04_Reduce.f k I J G).bind fun aa=>(some ((aa.2.2.2.1.length:Int),aa.2.2.2.2)))=some (r1,r2):=h;clear h;obtain⟨⟨ak,al,am,an,ao⟩,A2,H⟩:=bindO H
 (try dsimp only at H)
 simp only[Option.some.injEq,Prod.mk.injEq]at H;obtain⟨rfl,rfl⟩:=H
 go_enter Tryd.func81,Tryd.ntmps81
 go_wp2_with (first|((with_reducible refine gD 1 rfl ?_);refine bE 1 #[.int .i64 I,.int .i64 J,.slice Y G.length Z] 24 ?_;intro a8 hg w3 hbox hb;have D:=aK (hbox);have a5:=hbS HB hg;have a3:=hbS HB hg;replace HB:=hbB HB hb;clear hb hbox hg;obtain⟨ap,aq,ar,ax,ay,az⟩:=cell3 D)|((with_reducible refine gC 39 rfl ?_);refine cG (some 9) Tryd.func39 #[.agg #[.int .i64 I,.int .i64 J,.slice Y G.length Z]] ?_;(with_reducible refine(recoupref04_Reduce.calls k I J _ _ G ak al am an ao _ ?side1 ?side2 A2.out).mono ?_);(case side1=>exact kcB ag HB);(case side2=>exact af.out);rintro e w5 ⟨bf,bg,rfl,ai,aj,hb⟩;refine⟨_,rfl,?_⟩;have L:=aK (Kd.R_lower ai (below_size (hbA HB.out)));have O:=aK (Kd.R_lower aj (below_size (hbA HB.out)));replace D:=bkB D hb;replace HB:=hbB HB hb;(try clear hb);(try clear ai);(try clear aj))|((with_reducible refine gD 4 rfl ?_);refine bE 4 #[.int .i64 0,.int .i64 0,.slice none 0 0] 24 ?_;intro a9 hg w6 hbox hb;replace L:=kdB L hb;replace O:=kdB O hb;have ae:=aK (hbox);have a6:=hbS HB hg;have a4:=hbS HB hg;replace HB:=hbB HB hb;have U:=neL D hg;have X:=neG D hg;replace D:=bkB D hb;clear hb hbox hg;have bc:=X.out;have bd:=U.out;obtain⟨au,av,aw,a0,a1,a2⟩:=cell3 ae;obtain⟨bh,bi,a7⟩:=Kd.R_slice L.out;subst a7;obtain⟨ba,bb,ah⟩:=Kd.R_slice O.out;subst ah))
 go_ret2
 exact⟨rfE,hbA HB.out⟩
def recoupref07_rank.f(k:Nat)(I:Int)(J:Int)(L:List Int)(a1:Int):Option (Int):=(recoupref06_List.f k a1).bind fun O=>((recoupref03_Pick.f k I J L O).bind fun D=>((recoupref04_Rank.f k D.1 D.2.1 D.2.2.1).bind fun G=>(some G.1)))
def recoupref07_rank.T1:Bool×List (List Nat×List Nat):=(true,[([],[]),([],[]),([1],[1]),([0,2,2],[0,2]),([3],[3]),([4],[4]),([4],[4]),([],[]),([7,5,3,0,1,2,3,4,5,7],[5,7]),([6,8,0,1,2,3,4,5,6,7,8],[6])])
def recoupref07_rank.B1:List Nat:= [0,0,2,7,15,31,31,0,191,511]
theorem recoupref07_rank.tab1:rtab .any (opsOf Tryd.f58 1)=recoupref07_rank.T1:=by kernel_rfl
theorem recoupref07_rank.bits1:waitsOk recoupref07_rank.T1.2 recoupref07_rank.B1=true:=by kernel_rfl
set_option maxHeartbeats 8000000 in
set_option maxRecDepth 100000 in
theorem recoupref07_rank.calls(k:Nat)(Z:Int)(aa:Int)(af:Option Addr)(ag:Nat)(X:List Int)(a1:Int)(r:Int)(w:World)(az:Kd.C (Kd.int .u8) w af X.length X)(ay:X.length≤ag)(h:recoupref07_rank.f k Z aa X a1=some r):
 Calls Tryd.prog 58 #[.agg #[.int .i64 Z,.int .i64 aa,.slice af X.length ag],.int .u64 a1] w fun e w'=>e= .returned (.int .i64 r)∧Below w.heap.size w w':=by
 have bx:=Tryd.underlying24;have aw:=aK az;have av:=aK ay;clear az ay;have HB:=aK (Below.refl w.heap.size w);have H:((recoupref06_List.f k a1).bind fun ab=>((recoupref03_Pick.f k Z aa X ab).bind fun ax=>((recoupref04_Rank.f k ax.1 ax.2.1 ax.2.2.1).bind fun a4=>(some a4.1))))=some r:=h;clear h;obtain⟨ab,A3,H⟩:=bindO H
 (try dsimp only at H)
 obtain⟨⟨ac,ae,ah,ao⟩,A4,H⟩:=bindO H
 (try dsimp only at H)
 obtain⟨⟨bk,bl⟩,A5,H⟩:=bindO H
 (try dsimp only at H)
 obtain rfl:=Option.some.inj H
 go_enter Tryd.func58,Tryd.ntmps58
 try go_wp2_with (first|((with_reducible refine gD 2 rfl ?_);refine bE 2 #[.int .i64 Z,.int .i64 aa,.slice af X.length ag] 24 ?_;intro U hg w6 hbox hb;have D:=aK (hbox);have bo:=hbS HB hg;have bn:=hbS HB hg;replace HB:=hbB HB hb;clear hb hbox hg))
 replace D:=aK (blk_drew D.out);replace HB:=aK (below_drew1 HB.out);refine start_ (n:=10) (S:=fun w'=>w'.cell? ⟨U,0,none⟩=some (.int .i64 Z)∧w'.cell? ⟨U,1,none⟩=some (.int .i64 aa)∧w'.cell? ⟨U,2,none⟩=some (.slice af X.length ag)) (ds:= []) (.replicate 10 false) zb rfl rfl ⟨(blk_cell D.out 0).trans rfl,(blk_cell D.out 1).trans rfl,(blk_cell D.out 2).trans rfl⟩ (fun hHeld=>?_);refine with_tabW recoupref07_rank.tab1 recoupref07_rank.bits1 (fun HT_ HW_=>?_);generalize w6.drew=w7 at D HB hHeld⊢;refine pu 1 (some 11) (mB 10 2) HT_ ?_;refine tk3 0 (some 10) (mB 10 3) HT_ HW_ hHeld ?_;refine join_ (σ:=Value×Value×Nat) 2 (mB 10 255) (fun s_=> [(12,s_.1),(13,.tuple #[.agg #[.int .i64 ac,.int .i64 ae,s_.2.1],.int .i64 ao]),(5,.pointer (some ⟨s_.2.2,0,none⟩)),(9,.tuple #[.agg #[.int .i64 ac,.int .i64 ae,s_.2.1],.int .i64 ao]),(14,.agg #[.int .i64 ac,.int .i64 ae,s_.2.1]),(15,.int .i64 ao)]) (fun s_ w'=>(w'.cell? ⟨U,0,none⟩=some (.int .i64 Z)∧w'.cell? ⟨U,1,none⟩=some (.int .i64 aa)∧w'.cell? ⟨U,2,none⟩=some (.slice af X.length ag))∧(Kd.R (Kd.int .i64) 3 w' w.heap.size (fun _=>True) s_.1 ab)∧(Kd.R (Kd.int .u8) 5 w' w.heap.size (fun _=>True) s_.2.1 ah)∧(w'.heap[U]? =some (.cells #[.int .i64 Z,.int .i64 aa,.slice af X.length ag] 24 (0,0)))∧(w'.heap[s_.2.2]? =some (.cells #[.int .i64 0,.int .i64 0,.slice none 0 0] 24 (0,0)))∧(w.heap.size≤s_.2.2)∧(w.heap.size≤s_.2.2)∧(U≠s_.2.2)∧(s_.2.2≠U)∧(Below w.heap.size w w')) ?_ ?_;rotate_left
 ·intro hCont;refine two_ (i:=2) (j:=7) (Ni:=some 12) (Nj:=some 5) (mB 10 7) (mB 10 131) rfl rfl rfl rfl (two_of HT_.out zb) zc zc (fun K hK=>?_) (fun K hK=>?_)
  ·skip
   refine goes_ Tryd.func17 zb rfl #[.int .u64 a1] ze rfl rfl (by(try simp only[List.map_toArray,List.map_cons,List.map_nil]);first|done|rfl|(simp only[List.length_drop,List.length_take];rfl)) ?_;with_reducible refine(recoupref06_List.calls k a1 ab _ A3.out).mono ?_
   rintro e w8 ⟨a0,rfl,ai,hb⟩;refine⟨_,rfl,?_⟩;have I:=aK (Kd.R_lower ai (below_size (hbA HB.out)));replace D:=bkB D hb;replace HB:=hbB HB hb
   (try clear hb)
   (try clear a2)
   (try clear hk)
   (try clear hi)
   (try clear ai)
   obtain⟨a5,a6,a7⟩:=Kd.R_slice I.out
   (first|subst a7|(injection a7 with f1_ f2_ f3_;have f4_:=f1_.symm;have f5_:=f3_.symm;clear f1_ f2_ f3_;subst f4_;subst f5_))
   refine hK.out _ _ ⟨(blk_cell D.out 0).trans rfl,(blk_cell D.out 1).trans rfl,(blk_cell D.out 2).trans rfl⟩ (fun hHeld=>?_);clear hK K;refine znm (some 12) ?_;refine two_ (i:=3) (j:=7) (Ni:=some 13) (Nj:=some 5) (mB 10 15) (mB 10 135) rfl rfl rfl rfl (two_of HT_.out zb) zc zc (fun K hK=>?_) (fun K hK=>?_)
   ·skip
    refine goes_ Tryd.func16 zb rfl #[.agg #[.int .i64 Z,.int .i64 aa,.slice af X.length ag],.slice a5 ab.length a6] ze rfl rfl (by(try simp only[List.map_toArray,List.map_cons,List.map_nil]);first|done|rfl|(simp only[List.length_drop,List.length_take];rfl)) ?_;with_reducible refine(recoupref03_Pick.calls k Z aa _ _ X _ _ ab ac ae ah ao _ ?side1 ?side2 ?side3 ?side4 A4.out).mono ?_
    (case side1=>exact kcB aw HB)
    (case side2=>exact av.out)
    (case side3=>exact kcA (Kd.R_reads' I.out).2.2)
    (case side4=>exact(Kd.R_reads' I.out).2.1)
    rintro e bz ⟨al,rfl,ai,hb⟩;refine⟨_,rfl,?_⟩;replace I:=kdB I hb;have Y:=aK (Kd.R_lower ai (below_size (hbA HB.out)));replace D:=bkB D hb;replace HB:=hbB HB hb
    (try clear hb)
    (try clear a2)
    (try clear hk)
    (try clear hi)
    (try clear ai)
    refine hK.out _ _ ⟨(blk_cell D.out 0).trans rfl,(blk_cell D.out 1).trans rfl,(blk_cell D.out 2).trans rfl⟩ (fun hHeld=>?_);clear hK K;refine znm (some 13) ?_;refine pu 4 (some 9) (mB 10 31) HT_ ?_;refine pu 5 (some 14) (mB 10 63) HT_ ?_;refine pu 6 (some 15) (mB 10 127) HT_ ?_;refine zoh 7 (some 5) (mB 10 255) HT_ fun K hK=>?_;refine box_step ?hg (N:=5) ?hd (cs:= #[.int .i64 0,.int .i64 0,.slice none 0 0]) (t:=24) ?hr ?_;(case hd=>rfl);(case hg=>rfl);(case hr=>first|(go_simp;done)|(go_simp;rfl))
    intro L hg bm hbox hb;replace I:=kdB I hb;replace Y:=kdB Y hb;have J:=aK (hbox);have ak:=hbS HB hg;have aj:=hbS HB hg;replace HB:=hbB HB hb;have G:=neL D hg;have O:=neG D hg;replace D:=bkB D hb;clear hb hbox hg;refine hK.out _ _ ⟨(blk_cell D.out 0).trans rfl,(blk_cell D.out 1).trans rfl,(blk_cell D.out 2).trans rfl⟩ (fun hHeld=>?_);clear hK K;refine znm (some 5) ?_;exact norm_ zt (hCont (.slice a5 ab.length a6,al,L) _ ⟨hHeld,(kdA I.out),(kdA Y.out),(bkA D.out),(bkA J.out),ak.out,aj.out,G.out,O.out,(hbA HB.out)⟩)
   ·skip
    refine box_step ?hg (N:=5) ?hd (cs:= #[.int .i64 0,.int .i64 0,.slice none 0 0]) (t:=24) ?hr ?_;(case hd=>rfl);(case hg=>rfl);(case hr=>first|(go_simp;done)|(go_simp;rfl))
    intro L hg w9 hbox hb;replace I:=kdB I hb;have J:=aK (hbox);have ak:=hbS HB hg;have aj:=hbS HB hg;replace HB:=hbB HB hb;have G:=neL D hg;have O:=neG D hg;replace D:=bkB D hb;clear hb hbox hg;obtain⟨ap,ar,au⟩:=Kd.R_slice I.out
    (first|subst au|(injection au with f1_ f2_ f3_;have f4_:=f1_.symm;have f5_:=f3_.symm;clear f1_ f2_ f3_;subst f4_;subst f5_))
    refine hK.out _ _ ⟨(blk_cell D.out 0).trans rfl,(blk_cell D.out 1).trans rfl,(blk_cell D.out 2).trans rfl⟩ (fun hHeld=>?_);clear hK K;refine znm (some 5) ?_;refine zoh 3 (some 13) (mB 10 143) HT_ fun K hK=>?_;refine goes_ Tryd.func16 zb rfl #[.agg #[.int .i64 Z,.int .i64 aa,.slice af X.length ag],.slice ap ab.length ar] ze rfl rfl (by(try simp only[List.map_toArray,List.map_cons,List.map_nil]);first|done|rfl|(simp only[List.length_drop,List.length_take];rfl)) ?_;with_reducible refine(recoupref03_Pick.calls k Z aa _ _ X _ _ ab ac ae ah ao _ ?side1 ?side2 ?side3 ?side4 A4.out).mono ?_
    (case side1=>exact kcB aw HB)
    (case side2=>exact av.out)
    (case side3=>exact kcA (Kd.R_reads' I.out).2.2)
    (case side4=>exact(Kd.R_reads' I.out).2.1)
    rintro e bm ⟨al,rfl,ai,hb⟩;refine⟨_,rfl,?_⟩;replace I:=kdB I hb;have Y:=aK (Kd.R_lower ai (below_size (hbA HB.out)));replace D:=bkB D hb;replace J:=bkB J hb;replace HB:=hbB HB hb
    (try clear hb)
    (try clear a2)
    (try clear hk)
    (try clear hi)
    (try clear ai)
    refine hK.out _ _ ⟨(blk_cell D.out 0).trans rfl,(blk_cell D.out 1).trans rfl,(blk_cell D.out 2).trans rfl⟩ (fun hHeld=>?_);clear hK K;refine znm (some 13) ?_;refine pu 4 (some 9) (mB 10 159) HT_ ?_;refine pu 5 (some 14) (mB 10 191) HT_ ?_;refine pu 6 (some 15) (mB 10 255) HT_ ?_;exact norm_ zt (hCont (.slice ap ab.length ar,al,L) _ ⟨hHeld,(kdA I.out),(kdA Y.out),(bkA D.out),(bkA J.out),ak.out,aj.out,G.out,O.out,(hbA HB.out)⟩)
  ·skip
   refine box_step ?hg (N:=5) ?hd (cs:= #[.int .i64 0,.int .i64 0,.slice none 0 0]) (t:=24) ?hr ?_;(case hd=>rfl);(case hg=>rfl);(case hr=>first|(go_simp;done)|(go_simp;rfl))
   intro L hg w8 hbox hb;have J:=aK (hbox);have ak:=hbS HB hg;have aj:=hbS HB hg;replace HB:=hbB HB hb;have G:=neL D hg;have O:=neG D hg;replace D:=bkB D hb;clear hb hbox hg;refine hK.out _ _ ⟨(blk_cell D.out 0).trans rfl,(blk_cell D.out 1).trans rfl,(blk_cell D.out 2).trans rfl⟩ (fun hHeld=>?_);clear hK K;refine znm (some 5) ?_;refine zoh 2 (some 12) (mB 10 135) HT_ fun K hK=>?_;refine goes_ Tryd.func17 zb rfl #[.int .u64 a1] ze rfl rfl (by(try simp only[List.map_toArray,List.map_cons,List.map_nil]);first|done|rfl|(simp only[List.length_drop,List.length_take];rfl)) ?_;with_reducible refine(recoupref06_List.calls k a1 ab _ A3.out).mono ?_
   rintro e w9 ⟨a0,rfl,ai,hb⟩;refine⟨_,rfl,?_⟩;have I:=aK (Kd.R_lower ai (below_size (hbA HB.out)));replace D:=bkB D hb;replace J:=bkB J hb;replace HB:=hbB HB hb
   (try clear hb)
   (try clear a2)
   (try clear hk)
   (try clear hi)
   (try clear ai)
   obtain⟨ap,ar,au⟩:=Kd.R_slice I.out
   (first|subst au|(injection au with f1_ f2_ f3_;have f4_:=f1_.symm;have f5_:=f3_.symm;clear f1_ f2_ f3_;subst f4_;subst f5_))
   refine hK.out _ _ ⟨(blk_cell D.out 0).trans rfl,(blk_cell D.out 1).trans rfl,(blk_cell D.out 2).trans rfl⟩ (fun hHeld=>?_);clear hK K;refine znm (some 12) ?_;refine zoh 3 (some 13) (mB 10 143) HT_ fun K hK=>?_;refine goes_ Tryd.func16 zb rfl #[.agg #[.int .i64 Z,.int .i64 aa,.slice af X.length ag],.slice ap ab.length ar] ze rfl rfl (by(try simp only[List.map_toArray,List.map_cons,List.map_nil]);first|done|rfl|(simp only[List.length_drop,List.length_take];rfl)) ?_;with_reducible refine(recoupref03_Pick.calls k Z aa _ _ X _ _ ab ac ae ah ao _ ?side1 ?side2 ?side3 ?side4 A4.out).mono ?_
   (case side1=>exact kcB aw HB)
   (case side2=>exact av.out)
   (case side3=>exact kcA (Kd.R_reads' I.out).2.2)
   (case side4=>exact(Kd.R_reads' I.out).2.1)
   rintro e bm ⟨al,rfl,ai,hb⟩;refine⟨_,rfl,?_⟩;replace I:=kdB I hb;have Y:=aK (Kd.R_lower ai (below_size (hbA HB.out)));replace D:=bkB D hb;replace J:=bkB J hb;replace HB:=hbB HB hb
   (try clear hb)
   (try clear a2)
   (try clear hk)
   (try clear hi)
   (try clear ai)
   refine hK.out _ _ ⟨(blk_cell D.out 0).trans rfl,(blk_cell D.out 1).trans rfl,(blk_cell D.out 2).trans rfl⟩ (fun hHeld=>?_);clear hK K;refine znm (some 13) ?_;refine pu 4 (some 9) (mB 10 159) HT_ ?_;refine pu 5 (some 14) (mB 10 191) HT_ ?_;refine pu 6 (some 15) (mB 10 255) HT_ ?_;exact norm_ zt (hCont (.slice ap ab.length ar,al,L) _ ⟨hHeld,(kdA I.out),(kdA Y.out),(bkA D.out),(bkA J.out),ak.out,aj.out,G.out,O.out,(hbA HB.out)⟩)
 rintro⟨a0,al,L⟩ am ⟨hS_,h0_,h1_,h2_,h3_,h4_,h5_,h6_,h7_,h8_⟩;have n0_:Aside0 (Kd.R (Kd.int .i64) 3 am w.heap.size (fun _=>True) a0 ab):=⟨h0_⟩
 have n1_:Aside0 (Kd.R (Kd.int .u8) 5 am w.heap.size (fun _=>True) al ah):=⟨h1_⟩
 have n2_:Aside0 (am.heap[U]? =some (.cells #[.int .i64 Z,.int .i64 aa,.slice af X.length ag] 24 (0,0))):=⟨h2_⟩
 have n3_:Aside0 (am.heap[L]? =some (.cells #[.int .i64 0,.int .i64 0,.slice none 0 0] 24 (0,0))):=⟨h3_⟩
 have n4_:Aside0 (w.heap.size≤L):=⟨h4_⟩
 have n5_:Aside0 (w.heap.size≤L):=⟨h5_⟩
 have n6_:Aside0 (U≠L):=⟨h6_⟩
 have n7_:Aside0 (L≠U):=⟨h7_⟩
 have n8_:Aside0 (Below w.heap.size w am):=⟨h8_⟩
 clear D;clear HB;clear h0_ h1_ h2_ h3_ h4_ h5_ h6_ h7_ h8_;have I:=n0_;have Y:=n1_;have D:=n2_;have J:=n3_;have ak:=n4_;have aj:=n5_;have G:=n6_;have O:=n7_;have HB:=n8_;clear n0_ n1_ n2_ n3_ n4_ n5_ n6_ n7_ n8_;have hHeld:am.cell? ⟨U,0,none⟩=some (.int .i64 Z)∧am.cell? ⟨U,1,none⟩=some (.int .i64 aa)∧am.cell? ⟨U,2,none⟩=some (.slice af X.length ag):=hS_;obtain⟨aq,an,a3⟩:=Kd.R_slice Y.out
 (first|subst a3|(injection a3 with f1_ f2_ f3_;have f4_:=f1_.symm;have f5_:=f3_.symm;clear f1_ f2_ f3_;subst f4_;subst f5_))
 refine znq ?_;refine zoh 8 (none) (mB 10 511) HT_ fun K hK=>?_;have bu:am.cell? ⟨L,0,none⟩=some (.int .i64 0):=(blk_cell J.out 0).trans rfl;have bp:=blk_frozen J.out 0;have bh:=G.out;have be:=O.out;have bv:am.cell? ⟨L,1,none⟩=some (.int .i64 0):=(blk_cell J.out 1).trans rfl;have bq:=blk_frozen J.out 1;have bi:=G.out;have bf:=O.out;have bw:am.cell? ⟨L,2,none⟩=some (.slice none 0 0):=(blk_cell J.out 2).trans rfl;have br:=blk_frozen J.out 2;have bj:=G.out;have bg:=O.out;refine zsk ?_;refine hK.out _ _ ⟨((cell_far (p:=⟨L,_,none⟩) G.out _).trans (((cell_far (p:=⟨L,_,none⟩) G.out _).trans (((cell_far (p:=⟨L,_,none⟩) G.out _).trans (hHeld.1)))))),((cell_far (p:=⟨L,_,none⟩) G.out _).trans (((cell_far (p:=⟨L,_,none⟩) G.out _).trans (((cell_far (p:=⟨L,_,none⟩) G.out _).trans (hHeld.2.1)))))),((cell_far (p:=⟨L,_,none⟩) G.out _).trans (((cell_far (p:=⟨L,_,none⟩) G.out _).trans (((cell_far (p:=⟨L,_,none⟩) G.out _).trans (hHeld.2.2))))))⟩ (fun hHeld=>?_);clear hK K;refine pu 9 (some 6) (mB 10 1023) HT_ ?_;refine done_ (done_of HT_.out zb) ?_;have bs:=O.out;have bt:=G.out;obtain⟨a8,a9,ba,bb,bc,bd⟩:=cell3 J
 try go_wp2_with (first|((with_reducible refine gC 81 rfl ?_);refine cG (some 18) Tryd.func81 #[.agg #[.int .i64 ac,.int .i64 ae,.slice aq ah.length an]] ?_;(with_reducible refine(recoupref04_Rank.calls k ac ae _ _ ah bk bl _ ?side1 ?side2 A5.out).mono ?_);(case side1=>refine(Kd.R_reads' (e:=5) (base:=w.heap.size) (ok:=fun k_=>True) (n:=ah.length) (c:=an) ?_).2.2;exact(by(with_reducible repeat(first|apply Kd.R_alloc|apply Kd.R_drewN|apply Kd.R_drew));exact(zF Y.out J.out  (.int .i64 ac)  (.int .i64 ae)  (.slice aq ah.length an))));(case side2=>exact(Kd.R_reads' Y.out).2.1);rintro e b0 ⟨rfl,hb⟩;refine⟨_,rfl,?_⟩;replace I:=aK (Kd.R_below (by(with_reducible repeat(first|apply Kd.R_alloc|apply Kd.R_drewN|apply Kd.R_drew));exact(zF I.out J.out  (.int .i64 ac)  (.int .i64 ae)  (.slice aq ah.length an))) hb);replace Y:=aK (Kd.R_below (by(with_reducible repeat(first|apply Kd.R_alloc|apply Kd.R_drewN|apply Kd.R_drew));exact(zF Y.out J.out  (.int .i64 ac)  (.int .i64 ae)  (.slice aq ah.length an))) hb);replace D:=aK (blk_below (g:=U) (o:= .cells #[.int .i64 Z,.int .i64 aa,.slice af X.length ag] 24 (0,0)) zad hb);replace J:=aK (blk_below (g:=L) (o:= .cells #[.int .i64 ac,.int .i64 ae,.slice aq ah.length an] 24 (0,0)) (by refine bkR ?_;refine blk_put (cs:= #[.int .i64 ac,.int .i64 ae,.slice none 0 0]) ?_ 2 _ rfl;refine bkR ?_;refine blk_put (cs:= #[.int .i64 ac,.int .i64 0,.slice none 0 0]) ?_ 1 _ rfl;refine bkR ?_;refine blk_put (cs:= #[.int .i64 0,.int .i64 0,.slice none 0 0]) ?_ 0 _ rfl;refine bkR ?_;exact J.out) hb);replace HB:=hbB HB hb;(try clear hb)))
 go_ret
 exact⟨rfE,hbA HB.out⟩
def recoupref07_Rank.f(k:Nat)(D:Int)(G:Int)(I:List Int)(a1:Int):Option (Int×Int):=(recoupref07_bad.f k D G I a1).bind fun J=>(if J=0 then((recoupref07_rank.f k D G I a1).bind fun L=>(some (L,0)))else(some (0,J)))
set_option maxHeartbeats 8000000 in
set_option maxRecDepth 100000 in
theorem recoupref07_Rank.calls(k:Nat)(I:Int)(J:Int)(O:Option Addr)(U:Nat)(D:List Int)(a1:Int)(r1:Int)(r2:Int)(w:World)(aa:Kd.C (Kd.int .u8) w O D.length D)(Z:D.length≤U)(h:recoupref07_Rank.f k I J D a1=some (r1,r2)):
 Calls Tryd.prog 56 #[.agg #[.int .i64 I,.int .i64 J,.slice O D.length U],.int .u64 a1] w fun e w'=>e= .returned (.tuple #[.int .i64 r1,.int .i64 r2])∧Below w.heap.size w w':=by
 have a0:=Tryd.underlying24;have Y:=aK aa;have X:=aK Z;clear aa Z;have HB:=aK (Below.refl w.heap.size w);have H:((recoupref07_bad.f k I J D a1).bind fun L=>(if L=0 then((recoupref07_rank.f k I J D a1).bind fun ab=>(some (ab,0)))else(some (0,L))))=some (r1,r2):=h;clear h;obtain⟨L,A3,H⟩:=bindO H
 (try dsimp only at H)
 by_cases c4:L=0
 ·rw[if_pos c4]at H
  have c4b0:(L==0)=true:=beq_iff_eq.mpr c4;have c4b1:(L !=0)=false:=bne_eq_false_iff_eq.mpr c4;clear c4;obtain⟨ab,A5,H⟩:=bindO H
  (try dsimp only at H)
  simp only[Option.some.injEq,Prod.mk.injEq]at H;obtain⟨rfl,rfl⟩:=H
  go_enter Tryd.func56,Tryd.ntmps56
  go_wp2_with (first|((with_reducible refine gD 2 rfl ?_);refine bE 2 #[.int .i64 I,.int .i64 J,.slice O D.length U] 24 ?_;intro af hg w6 hbox hb;have G:=aK (hbox);have ae:=hbS HB hg;have ac:=hbS HB hg;replace HB:=hbB HB hb;clear hb hbox hg;obtain⟨am,an,ao,au,av,aw⟩:=cell3 G)|((with_reducible refine gC 57 rfl ?_);refine cG (some 9) Tryd.func57 #[.agg #[.int .i64 I,.int .i64 J,.slice O D.length U],.int .u64 a1] ?_;(with_reducible refine(recoupref07_bad.calls k I J _ _ D a1 L _ ?side1 ?side2 A3.out).mono ?_);(case side1=>exact kcB Y HB);(case side2=>exact X.out);rintro e w8 ⟨rfl,hb⟩;refine⟨_,rfl,?_⟩;replace G:=bkB G hb;replace HB:=hbB HB hb;(try clear hb);obtain⟨ap,aq,ar,ax,ay,az⟩:=cell3 G)|((with_reducible refine gC 58 rfl ?_);refine cG (some 15) Tryd.func58 #[.agg #[.int .i64 I,.int .i64 J,.slice O D.length U],.int .u64 a1] ?_;(with_reducible refine(recoupref07_rank.calls k I J _ _ D a1 ab _ ?side1 ?side2 A5.out).mono ?_);(case side1=>exact kcB Y HB);(case side2=>exact X.out);rintro e a2 ⟨rfl,hb⟩;refine⟨_,rfl,?_⟩;replace G:=bkB G hb;replace HB:=hbB HB hb;(try clear hb)))
  go_ret2
  exact⟨rfE,hbA HB.out⟩
 ·rw[if_neg c4]at H
  have c4b0:(L==0)=false:=beq_eq_false_iff_ne.mpr c4;have c4b1:(L !=0)=true:=bne_iff_ne.mpr c4;simp only[Option.some.injEq,Prod.mk.injEq]at H;obtain⟨rfl,rfl⟩:=H
  go_enter Tryd.func56,Tryd.ntmps56
  go_wp2_with (first|((with_reducible refine gD 2 rfl ?_);refine bE 2 #[.int .i64 I,.int .i64 J,.slice O D.length U] 24 ?_;intro af hg a3 hbox hb;have G:=aK (hbox);have ae:=hbS HB hg;have ac:=hbS HB hg;replace HB:=hbB HB hb;clear hb hbox hg;obtain⟨ag,ah,ai,aj,ak,al⟩:=cell3 G)|((with_reducible refine gC 57 rfl ?_);refine cG (some 9) Tryd.func57 #[.agg #[.int .i64 I,.int .i64 J,.slice O D.length U],.int .u64 a1] ?_;(with_reducible refine(recoupref07_bad.calls k I J _ _ D a1 L _ ?side1 ?side2 A3.out).mono ?_);(case side1=>exact kcB Y HB);(case side2=>exact X.out);rintro e a4 ⟨rfl,hb⟩;refine⟨_,rfl,?_⟩;replace G:=bkB G hb;replace HB:=hbB HB hb;(try clear hb)))
  go_ret2
  exact⟨rfE,hbA HB.out⟩
def recoupref07_Covers.f(k:Nat)(I:Int)(G:Int)(J:List Int)(a1:Int):Option (Bool×Int):=(recoupref07_Rank.f k I G J a1).bind fun D=>(if D.2=0 then(some ((D.1==G),D.2))else(some (false,D.2)))
set_option maxHeartbeats 8000000 in
set_option maxRecDepth 100000 in
theorem recoupref07_Covers.calls(k:Nat)(J:Int)(I:Int)(O:Option Addr)(U:Nat)(D:List Int)(a1:Int)(r1:Bool)(r2:Int)(w:World)(ab:Kd.C (Kd.int .u8) w O D.length D)(aa:D.length≤U)(h:recoupref07_Covers.f k J I D a1=some (r1,r2)):
 Calls Tryd.prog 33 #[.agg #[.int .i64 J,.int .i64 I,.slice O D.length U],.int .u64 a1] w fun e w'=>e= .returned (.tuple #[.bool r1,.int .i64 r2])∧Below w.heap.size w w':=by
 have a2:=Tryd.underlying24;have Z:=aK ab;have Y:=aK aa;clear ab aa;have HB:=aK (Below.refl w.heap.size w);have H:((recoupref07_Rank.f k J I D a1).bind fun X=>(if X.2=0 then(some ((X.1==I),X.2))else(some (false,X.2))))=some (r1,r2):=h;clear h;obtain⟨⟨ac,L⟩,A3,H⟩:=bindO H
 (try dsimp only at H)
 by_cases c4:L=0
 ·rw[if_pos c4]at H
  have c4b0:(L==0)=true:=beq_iff_eq.mpr c4;have c4b1:(L !=0)=false:=bne_eq_false_iff_eq.mpr c4;clear c4;simp only[Option.some.injEq,Prod.mk.injEq]at H;obtain⟨rfl,rfl⟩:=H
  go_enter Tryd.func33,Tryd.ntmps33
  go_wp2_with (first|((with_reducible refine gD 2 rfl ?_);refine bE 2 #[.int .i64 J,.int .i64 I,.slice O D.length U] 24 ?_;intro ag hg w5 hbox hb;have G:=aK (hbox);have af:=hbS HB hg;have ae:=hbS HB hg;replace HB:=hbB HB hb;clear hb hbox hg;obtain⟨an,ao,ap,av,aw,ax⟩:=cell3 G)|((with_reducible refine gC 56 rfl ?_);refine cG (some 11) Tryd.func56 #[.agg #[.int .i64 J,.int .i64 I,.slice O D.length U],.int .u64 a1] ?_;(with_reducible refine(recoupref07_Rank.calls k J I _ _ D a1 ac L _ ?side1 ?side2 A3.out).mono ?_);(case side1=>exact kcB Z HB);(case side2=>exact Y.out);rintro e w7 ⟨rfl,hb⟩;refine⟨_,rfl,?_⟩;replace G:=bkB G hb;replace HB:=hbB HB hb;(try clear hb);obtain⟨aq,ar,au,ay,az,a0⟩:=cell3 G))
  go_ret2
  exact⟨rfE,hbA HB.out⟩
 ·rw[if_neg c4]at H
  have c4b0:(L==0)=false:=beq_eq_false_iff_ne.mpr c4;have c4b1:(L !=0)=true:=bne_iff_ne.mpr c4;simp only[Option.some.injEq,Prod.mk.injEq]at H;obtain⟨rfl,rfl⟩:=H
  go_enter Tryd.func33,Tryd.ntmps33
  go_wp2_with (first|((with_reducible refine gD 2 rfl ?_);refine bE 2 #[.int .i64 J,.int .i64 I,.slice O D.length U] 24 ?_;intro ag hg w9 hbox hb;have G:=aK (hbox);have af:=hbS HB hg;have ae:=hbS HB hg;replace HB:=hbB HB hb;clear hb hbox hg;obtain⟨ah,ai,aj,ak,al,am⟩:=cell3 G)|((with_reducible refine gC 56 rfl ?_);refine cG (some 11) Tryd.func56 #[.agg #[.int .i64 J,.int .i64 I,.slice O D.length U],.int .u64 a1] ?_;(with_reducible refine(recoupref07_Rank.calls k J I _ _ D a1 ac L _ ?side1 ?side2 A3.out).mono ?_);(case side1=>exact kcB Z HB);(case side2=>exact Y.out);rintro e a3 ⟨rfl,hb⟩;refine⟨_,rfl,?_⟩;replace G:=bkB G hb;replace HB:=hbB HB hb;(try clear hb)))
  go_ret2
  exact⟨rfE,hbA HB.out⟩
def recoupref18_Recovers.f(k:Nat)(I:Int)(J:Int)(L:List Int)(a1:Int):Option (Bool×Int):=(recoupref18_left.f k I J L a1).bind fun D=>(if D.2=0 then((recoupref07_Covers.f k I J L D.1).bind fun G=>(some (G.1,G.2)))else(some (false,D.2)))
set_option maxHeartbeats 8000000 in
set_option maxRecDepth 100000 in
theorem recoupref18_Recovers.calls(k:Nat)(I:Int)(J:Int)(L:Option Addr)(O:Nat)(D:List Int)(a1:Int)(r1:Bool)(r2:Int)(w:World)(ae:Kd.C (Kd.int .u8) w L D.length D)(ac:D.length≤O)(h:recoupref18_Recovers.f k I J D a1=some (r1,r2)):
 Calls Tryd.prog 10 #[.agg #[.int .i64 I,.int .i64 J,.slice L D.length O],.int .u64 a1] w fun e w'=>e= .returned (.tuple #[.bool r1,.int .i64 r2])∧Below w.heap.size w w':=by
 have a5:=Tryd.underlying24;have Y:=aK ae;have X:=aK ac;clear ae ac;have HB:=aK (Below.refl w.heap.size w);have H:((recoupref18_left.f k I J D a1).bind fun Z=>(if Z.2=0 then((recoupref07_Covers.f k I J D Z.1).bind fun ab=>(some (ab.1,ab.2)))else(some (false,Z.2))))=some (r1,r2):=h;clear h;obtain⟨⟨aa,U⟩,A3,H⟩:=bindO H
 (try dsimp only at H)
 by_cases c4:U=0
 ·rw[if_pos c4]at H
  have c4b0:(U==0)=true:=beq_iff_eq.mpr c4;have c4b1:(U !=0)=false:=bne_eq_false_iff_eq.mpr c4;clear c4;obtain⟨⟨ao,ap⟩,A5,H⟩:=bindO H
  (try dsimp only at H)
  simp only[Option.some.injEq,Prod.mk.injEq]at H;obtain⟨rfl,rfl⟩:=H
  go_enter Tryd.func10,Tryd.ntmps10
  go_wp2_with (first|((with_reducible refine gD 2 rfl ?_);refine bE 2 #[.int .i64 I,.int .i64 J,.slice L D.length O] 24 ?_;intro ah hg w6 hbox hb;have G:=aK (hbox);have ag:=hbS HB hg;have af:=hbS HB hg;replace HB:=hbB HB hb;clear hb hbox hg;obtain⟨aq,ar,au,ay,az,a0⟩:=cell3 G)|((with_reducible refine gC 32 rfl ?_);refine cG (some 11) Tryd.func32 #[.agg #[.int .i64 I,.int .i64 J,.slice L D.length O],.int .u64 a1] ?_;(with_reducible refine(recoupref18_left.calls k I J _ _ D a1 aa U _ ?side1 ?side2 A3.out).mono ?_);(case side1=>exact kcB Y HB);(case side2=>exact X.out);rintro e w8 ⟨rfl,hb⟩;refine⟨_,rfl,?_⟩;replace G:=bkB G hb;replace HB:=hbB HB hb;(try clear hb);obtain⟨av,aw,ax,a2,a3,a4⟩:=cell3 G)|((with_reducible refine gC 33 rfl ?_);refine cG (some 19) Tryd.func33 #[.agg #[.int .i64 I,.int .i64 J,.slice L D.length O],.int .u64 aa] ?_;(with_reducible refine(recoupref07_Covers.calls k I J _ _ D aa ao ap _ ?side1 ?side2 A5.out).mono ?_);(case side1=>exact kcB Y HB);(case side2=>exact X.out);rintro e a6 ⟨rfl,hb⟩;refine⟨_,rfl,?_⟩;replace G:=bkB G hb;replace HB:=hbB HB hb;(try clear hb)))
  go_ret2
  exact⟨rfE,hbA HB.out⟩
 ·rw[if_neg c4]at H
  have c4b0:(U==0)=false:=beq_eq_false_iff_ne.mpr c4;have c4b1:(U !=0)=true:=bne_iff_ne.mpr c4;simp only[Option.some.injEq,Prod.mk.injEq]at H;obtain⟨rfl,rfl⟩:=H
  go_enter Tryd.func10,Tryd.ntmps10
  go_wp2_with (first|((with_reducible refine gD 2 rfl ?_);refine bE 2 #[.int .i64 I,.int .i64 J,.slice L D.length O] 24 ?_;intro ah hg a7 hbox hb;have G:=aK (hbox);have ag:=hbS HB hg;have af:=hbS HB hg;replace HB:=hbB HB hb;clear hb hbox hg;obtain⟨ai,aj,ak,al,am,an⟩:=cell3 G)|((with_reducible refine gC 32 rfl ?_);refine cG (some 11) Tryd.func32 #[.agg #[.int .i64 I,.int .i64 J,.slice L D.length O],.int .u64 a1] ?_;(with_reducible refine(recoupref18_left.calls k I J _ _ D a1 aa U _ ?side1 ?side2 A3.out).mono ?_);(case side1=>exact kcB Y HB);(case side2=>exact X.out);rintro e a8 ⟨rfl,hb⟩;refine⟨_,rfl,?_⟩;replace G:=bkB G hb;replace HB:=hbB HB hb;(try clear hb)))
  go_ret2
  exact⟨rfE,hbA HB.out⟩
def recouplaw18_generator.f(k:Nat)(G:Int)(I:Int)(J:List Int)(a1:Int):Option (Bool):=(recoupref18_Recovers.f k G I J a1).bind fun D=>(some (D.2==0))
set_option maxHeartbeats 8000000 in
set_option maxRecDepth 100000 in
theorem recouplaw18_generator.calls(k:Nat)(G:Int)(I:Int)(L:Option Addr)(O:Nat)(D:List Int)(a1:Int)(r:Bool)(w:World)(X:Kd.C (Kd.int .u8) w L D.length D)(U:D.length≤O)(h:recouplaw18_generator.f k G I D a1=some r):
 Calls Tryd.prog 13 #[.agg #[.int .i64 G,.int .i64 I,.slice L D.length O],.int .u64 a1] w fun e w'=>e= .returned (.bool r)∧Below w.heap.size w w':=by
 have an:=Tryd.underlying24;have Z:=aK X;have Y:=aK U;clear X U;have HB:=aK (Below.refl w.heap.size w);have H:((recoupref18_Recovers.f k G I D a1).bind fun aa=>(some (aa.2==0)))=some r:=h;clear h;obtain⟨⟨ab,ac⟩,A3,H⟩:=bindO H
 (try dsimp only at H)
 obtain rfl:=Option.some.inj H
 go_enter Tryd.func13,Tryd.ntmps13
 go_wp2_with (first|((with_reducible refine gD 2 rfl ?_);refine bE 2 #[.int .i64 G,.int .i64 I,.slice L D.length O] 24 ?_;intro am hg w4 hbox hb;have J:=aK (hbox);have al:=hbS HB hg;have ak:=hbS HB hg;replace HB:=hbB HB hb;clear hb hbox hg;obtain⟨ae,af,ag,ah,ai,aj⟩:=cell3 J)|((with_reducible refine gC 10 rfl ?_);refine cG (some 10) Tryd.func10 #[.agg #[.int .i64 G,.int .i64 I,.slice L D.length O],.int .u64 a1] ?_;(with_reducible refine(recoupref18_Recovers.calls k G I _ _ D a1 ab ac _ ?side1 ?side2 A3.out).mono ?_);(case side1=>exact kcB Z HB);(case side2=>exact Y.out);rintro e w6 ⟨rfl,hb⟩;refine⟨_,rfl,?_⟩;replace J:=bkB J hb;replace HB:=hbB HB hb;(try clear hb)))
 go_ret
 exact⟨rfE,hbA HB.out⟩
def matrix_side.f(a0:Int):Option (Bool):=if a0≥0 then(some (decide (a0≤64)))else(some false)
set_option maxHeartbeats 8000000 in
set_option maxRecDepth 100000 in
theorem matrix_side.calls(a0:Int)(r:Bool)(w:World)(h:matrix_side.f a0=some r):
 Calls Tryd.prog 68 #[.int .i64 a0] w fun e w'=>e= .returned (.bool r)∧Drawn0 w w':=by
 have H:(if a0≥0 then(some (decide (a0≤64)))else(some false))=some r:=h;clear h;by_cases c2:a0≥0
 ·rw[if_pos c2]at H
  have c2b0:decide (0≤a0)=true:=decide_eq_true c2;clear c2;obtain rfl:=Option.some.inj H
  go_enter Tryd.func68,Tryd.ntmps68
  go_wp2
  go_ret
  exact⟨by first|rfl|(simp;done)|(simp[*];done),by repeat(first|exact Drawn0.refl _|apply Drawn0.step)⟩
 ·rw[if_neg c2]at H
  have c2b0:decide (0≤a0)=false:=decide_eq_false c2;clear c2;obtain rfl:=Option.some.inj H
  go_enter Tryd.func68,Tryd.ntmps68
  go_wp2
  go_ret
  exact⟨by first|rfl|(simp;done)|(simp[*];done),by repeat(first|exact Drawn0.refl _|apply Drawn0.step)⟩
def matrix_Right.f(D:Int)(G:Int)(I:List Int):Option (Bool):=(matrix_side.f D).bind fun J=>(if J=true then((matrix_side.f G).bind fun L=>(if L=true then(some ((I.length:Int)==(wrap64 (D*G))))else(some false)))else(some false))
set_option maxHeartbeats 8000000 in
set_option maxRecDepth 100000 in
theorem matrix_Right.calls(D:Int)(G:Int)(L:Option Addr)(O:Nat)(I:List Int)(r:Bool)(w:World)(aa:Kd.C (Kd.int .u8) w L I.length I)(Z:I.length≤O)(h:matrix_Right.f D G I=some r):
 Calls Tryd.prog 51 #[.agg #[.int .i64 D,.int .i64 G,.slice L I.length O]] w fun e w'=>e= .returned (.bool r)∧Below w.heap.size w w':=by
 have a0:=Tryd.underlying24;have az:=aK aa;have ay:=aK Z;clear aa Z;have HB:=aK (Below.refl w.heap.size w);have H:((matrix_side.f D).bind fun ab=>(if ab=true then((matrix_side.f G).bind fun ac=>(if ac=true then(some ((I.length:Int)==(wrap64 (D*G))))else(some false)))else(some false)))=some r:=h;clear h;obtain⟨ab,A2,H⟩:=bindO H
 (try dsimp only at H)
 by_cases c3:ab=true
 ·subst c3;rw[if_pos rfl]at H
  obtain⟨ac,A4,H⟩:=bindO H
  (try dsimp only at H)
  by_cases c5:ac=true
  ·subst c5;rw[if_pos rfl]at H
   obtain rfl:=Option.some.inj H
   go_enter Tryd.func51,Tryd.ntmps51
   go_wp2_with (first|((with_reducible refine gD 1 rfl ?_);(try(refine gate_guard ze ?_;dsimp only));refine bE 1 #[.int .i64 D,.int .i64 G,.slice L I.length O] 24 ?_;intro Y hg w6 hbox hb;have J:=aK (hbox);have X:=hbS HB hg;have U:=hbS HB hg;replace HB:=hbB HB hb;clear hb hbox hg;obtain⟨ak,al,am,aq,ar,au⟩:=cell3 J)|((with_reducible refine gC 68 rfl ?_);refine cG (some 5) Tryd.func68 #[.int .i64 D] ?_;(with_reducible refine(matrix_side.calls D true _ A2.out).mono ?_);rintro e w' ⟨rfl,⟨nd,rfl⟩⟩;refine⟨_,rfl,?_⟩)|(go_at_call 68;(with_reducible refine(matrix_side.calls G true _ A4.out).mono ?_);rintro e w' ⟨rfl,⟨nd,rfl⟩⟩))
   go_ret
   exact⟨rfE,hbA HB.out⟩
  ·replace c5:=Bool.eq_false_iff.mpr c5;subst c5;rw[if_neg nofT]at H
   obtain rfl:=Option.some.inj H
   go_enter Tryd.func51,Tryd.ntmps51
   go_wp2_with (first|((with_reducible refine gD 1 rfl ?_);(try(refine gate_guard ze ?_;dsimp only));refine bE 1 #[.int .i64 D,.int .i64 G,.slice L I.length O] 24 ?_;intro Y hg w8 hbox hb;have J:=aK (hbox);have X:=hbS HB hg;have U:=hbS HB hg;replace HB:=hbB HB hb;clear hb hbox hg;obtain⟨an,ao,ap,av,aw,ax⟩:=cell3 J)|((with_reducible refine gC 68 rfl ?_);refine cG (some 5) Tryd.func68 #[.int .i64 D] ?_;(with_reducible refine(matrix_side.calls D true _ A2.out).mono ?_);rintro e w' ⟨rfl,⟨nd,rfl⟩⟩;refine⟨_,rfl,?_⟩)|(go_at_call 68;(with_reducible refine(matrix_side.calls G false _ A4.out).mono ?_);rintro e w' ⟨rfl,⟨nd,rfl⟩⟩))
   go_ret
   exact⟨rfE,hbA HB.out⟩
 ·replace c3:=Bool.eq_false_iff.mpr c3;subst c3;rw[if_neg nofT]at H
  obtain rfl:=Option.some.inj H
  go_enter Tryd.func51,Tryd.ntmps51
  go_wp2_with (first|((with_reducible refine gD 1 rfl ?_);(try(refine gate_guard ze ?_;dsimp only));refine bE 1 #[.int .i64 D,.int .i64 G,.slice L I.length O] 24 ?_;intro Y hg a1 hbox hb;have J:=aK (hbox);have X:=hbS HB hg;have U:=hbS HB hg;replace HB:=hbB HB hb;clear hb hbox hg;obtain⟨ae,af,ag,ah,ai,aj⟩:=cell3 J)|((with_reducible refine gC 68 rfl ?_);refine cG (some 5) Tryd.func68 #[.int .i64 D] ?_;(with_reducible refine(matrix_side.calls D false _ A2.out).mono ?_);rintro e w' ⟨rfl,⟨nd,rfl⟩⟩;refine⟨_,rfl,?_⟩))
  go_ret
  exact⟨rfE,hbA HB.out⟩
def subset_may.f(a0:Int):Option (Bool):=if a0≥0 then(some (decide (a0≤64)))else(some false)
set_option maxHeartbeats 8000000 in
set_option maxRecDepth 100000 in
theorem subset_may.calls(a0:Int)(r:Bool)(w:World)(h:subset_may.f a0=some r):
 Calls Tryd.prog 74 #[.int .i64 a0] w fun e w'=>e= .returned (.bool r)∧Drawn0 w w':=by
 have H:(if a0≥0 then(some (decide (a0≤64)))else(some false))=some r:=h;clear h;by_cases c2:a0≥0
 ·rw[if_pos c2]at H
  have c2b0:decide (0≤a0)=true:=decide_eq_true c2;clear c2;obtain rfl:=Option.some.inj H
  go_enter Tryd.func74,Tryd.ntmps74
  go_wp2
  go_ret
  exact⟨by first|rfl|(simp;done)|(simp[*];done),by repeat(first|exact Drawn0.refl _|apply Drawn0.step)⟩
 ·rw[if_neg c2]at H
  have c2b0:decide (0≤a0)=false:=decide_eq_false c2;clear c2;obtain rfl:=Option.some.inj H
  go_enter Tryd.func74,Tryd.ntmps74
  go_wp2
  go_ret
  exact⟨by first|rfl|(simp;done)|(simp[*];done),by repeat(first|exact Drawn0.refl _|apply Drawn0.step)⟩
def subset_low.f(a0:Int):Option (Int):=if 0≤a0 then(some (IntKind.u64.wrap ((shl .u64 1 a0)-1)))else(none)
set_option maxHeartbeats 8000000 in
set_option maxRecDepth 100000 in
theorem subset_low.calls(a0:Int)(r:Int)(w:World)(h:subset_low.f a0=some r):
 Calls Tryd.prog 75 #[.int .i64 a0] w fun e w'=>e= .returned (.int .u64 r)∧Drawn0 w w':=by
 have H:(if 0≤a0 then(some (IntKind.u64.wrap ((shl .u64 1 a0)-1)))else(none))=some r:=h;clear h;by_cases c2:0≤a0
 ·rw[if_pos c2]at H
  have c2b0:=eq_true c2;have c2b1:decide (0≤a0)=true:=decide_eq_true c2;clear c2;obtain⟨G,D⟩: ∃j_:Int,(shl .u64 1 a0)=j_:=⟨_,rfl⟩
  replace H:(some (IntKind.u64.wrap ((G)-1)))=some r:=by first|(rw[D]at H;exact H)|(simp only[D]at H⊢;exact H)
  have hji3_:(IntKind.u64.wrap (1*2^min a0.toNat 64))=G:=D;have hji3z:a0≤64→(IntKind.u64.wrap (1*2^a0.toNat))=G:=shl_small D;have hji3u:(IntKind.u64.wrap (2^min a0.toNat 64))=G:=by have h_:=hji3_;rw[Int.one_mul]at h_;exact h_
  have hji3v:a0≤64→(IntKind.u64.wrap (2^a0.toNat))=G:=fun hle_=>by have h_:=hji3z hle_;rw[Int.one_mul]at h_;exact h_
  obtain rfl:=Option.some.inj H
  go_enter Tryd.func75,Tryd.ntmps75
  go_wp2
  go_ret
  exact⟨by first|rfl|(simp;done)|(simp only[←D]<;>(first|rfl|simp))|(simp[*];done),by repeat(first|exact Drawn0.refl _|apply Drawn0.step)⟩
 ·rw[if_neg c2]at H
  exact absurd H zd
def subset_Full.f(a0:Int):Option (Int×Int):=(subset_may.f a0).bind fun D=>(if D=true then((subset_low.f a0).bind fun G=>(some (G,0)))else(some (0,2)))
set_option maxHeartbeats 8000000 in
set_option maxRecDepth 100000 in
theorem subset_Full.calls(a0:Int)(r1:Int)(r2:Int)(w:World)(h:subset_Full.f a0=some (r1,r2)):
 Calls Tryd.prog 52 #[.int .i64 a0] w fun e w'=>e= .returned (.tuple #[.int .u64 r1,.int .i64 r2])∧Drawn0 w w':=by
 have H:((subset_may.f a0).bind fun D=>(if D=true then((subset_low.f a0).bind fun G=>(some (G,0)))else(some (0,2))))=some (r1,r2):=h;clear h;obtain⟨D,A2,H⟩:=bindO H
 (try dsimp only at H)
 by_cases c3:D=true
 ·subst c3;rw[if_pos rfl]at H
  obtain⟨G,A4,H⟩:=bindO H
  (try dsimp only at H)
  simp only[Option.some.injEq,Prod.mk.injEq]at H;obtain⟨rfl,rfl⟩:=H
  go_enter Tryd.func52,Tryd.ntmps52
  go_wp2_with (first|((with_reducible refine gC 74 rfl ?_);refine cG (some 5) Tryd.func74 #[.int .i64 a0] ?_;(with_reducible refine(subset_may.calls a0 true _ A2.out).mono ?_);rintro e w' ⟨rfl,⟨nd,rfl⟩⟩;refine⟨_,rfl,?_⟩)|((with_reducible refine gC 75 rfl ?_);refine cG (some 8) Tryd.func75 #[.int .i64 a0] ?_;(with_reducible refine(subset_low.calls a0 G _ A4.out).mono ?_);rintro e w' ⟨rfl,⟨nd,rfl⟩⟩;refine⟨_,rfl,?_⟩))
  go_ret2
  exact⟨by first|rfl|(simp;done)|(simp[*];done),by repeat(first|exact Drawn0.refl _|apply Drawn0.step)⟩
 ·replace c3:=Bool.eq_false_iff.mpr c3;subst c3;rw[if_neg nofT]at H
  simp only[Option.some.injEq,Prod.mk.injEq]at H;obtain⟨rfl,rfl⟩:=H
  go_enter Tryd.func52,Tryd.ntmps52
  go_wp2_with (first|((with_reducible refine gC 74 rfl ?_);refine cG (some 5) Tryd.func74 #[.int .i64 a0] ?_;(with_reducible refine(subset_may.calls a0 false _ A2.out).mono ?_);rintro e w' ⟨rfl,⟨nd,rfl⟩⟩;refine⟨_,rfl,?_⟩))
  go_ret2
  exact⟨by first|rfl|(simp;done)|(simp[*];done),by repeat(first|exact Drawn0.refl _|apply Drawn0.step)⟩
def subset_Has.f(a0:Int)(a1:Int):Option (Bool):=if a1≥0 then(if a1<64 then(if 0≤a1 then(some ((Go.bits .and .u64 (shr .u64 a0 a1) 1)==1))else(none))else(some false))else(some false)
set_option maxHeartbeats 8000000 in
set_option maxRecDepth 100000 in
theorem subset_Has.calls(a0:Int)(a1:Int)(r:Bool)(w:World)(h:subset_Has.f a0 a1=some r):
 Calls Tryd.prog 77 #[.int .u64 a0,.int .i64 a1] w fun e w'=>e= .returned (.bool r)∧Drawn0 w w':=by
 have H:(if a1≥0 then(if a1<64 then(if 0≤a1 then(some ((Go.bits .and .u64 (shr .u64 a0 a1) 1)==1))else(none))else(some false))else(some false))=some r:=h;clear h;by_cases c3:a1≥0
 ·rw[if_pos c3]at H
  have c3b0:decide (0≤a1)=true:=decide_eq_true c3;clear c3;by_cases c4:a1<64
  ·rw[if_pos c4]at H
   have c4b0:decide (a1<64)=true:=decide_eq_true c4;clear c4;by_cases c5:0≤a1
   ·rw[if_pos c5]at H
    have c5b0:=eq_true c5;have c5b1:decide (0≤a1)=true:=decide_eq_true c5;clear c5;obtain⟨G,D⟩: ∃j_:Int,(shr .u64 a0 a1)=j_:=⟨_,rfl⟩
    replace H:(some ((Go.bits .and .u64 (G) 1)==1))=some r:=by first|(rw[D]at H;exact H)|(simp only[D]at H⊢;exact H)
    have hji6_:(a0 / 2^min a1.toNat 64)=G:=D;have hji6z:a1≤64→(a0 / 2^a1.toNat)=G:=shr_small D;obtain rfl:=Option.some.inj H
    go_enter Tryd.func77,Tryd.ntmps77
    go_wp2
    go_ret
    exact⟨by first|rfl|(simp;done)|(simp only[←D]<;>(first|rfl|simp))|(simp[*];done),by repeat(first|exact Drawn0.refl _|apply Drawn0.step)⟩
   ·rw[if_neg c5]at H
    exact absurd H zd
  ·rw[if_neg c4]at H
   have c4b0:decide (a1<64)=false:=decide_eq_false c4;clear c4;obtain rfl:=Option.some.inj H
   go_enter Tryd.func77,Tryd.ntmps77
   go_wp2
   go_ret
   exact⟨by first|rfl|(simp;done)|(simp[*];done),by repeat(first|exact Drawn0.refl _|apply Drawn0.step)⟩
 ·rw[if_neg c3]at H
  have c3b0:decide (0≤a1)=false:=decide_eq_false c3;clear c3;obtain rfl:=Option.some.inj H
  go_enter Tryd.func77,Tryd.ntmps77
  go_wp2
  go_ret
  exact⟨by first|rfl|(simp;done)|(simp[*];done),by repeat(first|exact Drawn0.refl _|apply Drawn0.step)⟩
def u64B(x:Int):Bool:=decide (0≤x)&&decide (x<18446744073709551616)
def bits_TrailingZeros64.f(a0:Int):Option Int:=if u64B a0=true then some (Lib.ctz 64 a0.toNat:Nat)else none
theorem tz64_zero(w:World):Calls Tryd.prog 71 #[.int .u64 0] w fun e w'=>e= .returned (.int .i64 64)∧w'=w:=by
 go_enter Tryd.func71,Tryd.ntmps71
 go_wp2
 go_ret
 exact⟨rfl,rfl⟩
set_option maxHeartbeats 1000000 in
theorem tz64_core(x k idx:Nat)(w:World)(D:((x:Int)==0)=false)
 (key:IntKind.u64.wrap (bits BinOp.and IntKind.u64 (x:Int) (IntKind.u64.wrap (-(x:Int)))*285870213051353865) / 288230376151711744=(idx:Int))
 (hi:idx<64) (hk:k<64) (hcell:w.cell? ⟨0,idx,none⟩=some (.int .u8 k)):
 Calls Tryd.prog 71 #[.int .u64 x] w fun e w'=>e= .returned (.int .i64 k)∧w'=w:=by
 go_enter Tryd.func71,Tryd.ntmps71
 go_wp2_with (simp only[key])
 go_ret
 exact⟨rfl,rfl⟩
theorem bits_TrailingZeros64.calls(a0:Int)(r:Int)(w:World)(h:bits_TrailingZeros64.f a0=some r)(hT:TabAt 0 Lib.deBruijn64tab w):
 Calls Tryd.prog 71 #[.int .u64 a0] w fun e w'=>e= .returned (.int .i64 r)∧Drawn0 w w':=by
 unfold bits_TrailingZeros64.f at h;by_cases hb:u64B a0=true
 ·rw[if_pos hb]at h
  unfold u64B at hb;simp only[Bool.and_eq_true,decide_eq_true_eq]at hb;obtain⟨h0,h1⟩:=hb;obtain⟨x,rfl⟩:=Int.eq_ofNat_of_zero_le h0;obtain rfl:=Option.some.inj h;have hx:x<18446744073709551616:=by omega
  rw[Int.toNat_natCast];by_cases D:x=0
  ·subst D;refine(tz64_zero w).mono ?_;rintro e w' ⟨rfl,rfl⟩;exact⟨rfl,Drawn0.refl _⟩
  ·obtain⟨hlow,hk⟩:=Lib.lowest_bit 64 x D hx;obtain⟨hi,htab⟩:=Lib.deBruijn64_at _ hk;have hcell:=hT _ hi;rw[htab]at hcell
   refine(tz64_core x _ _ w zl (tz64_key x _ hx D hlow) hi hk hcell).mono ?_;rintro e w' ⟨rfl,rfl⟩;exact⟨rfl,Drawn0.refl _⟩
 ·rw[if_neg hb]at h
  cases h
def subset_List.l0:Nat→Int→List Int→Option (List Int)
 |0,_,_=>none
 |k+1,x0,x3=>if x0=0 then(some x3)else((bits_TrailingZeros64.f x0).bind fun D=>(if x3.length<17592186044416 then(subset_List.l0 k (Go.bits .and .u64 x0 (IntKind.u64.wrap (x0-1))) (x3++ [D]))else(none)))
def subset_List.f(k:Nat)(a0:Int):Option (List Int):=subset_List.l0 k a0 ([]:List Int)
theorem subset_List.mono_l: ∀k,(∀y0 y1,LeO (subset_List.l0 k y0 y1) (subset_List.l0 (k+1) y0 y1))
 |0=>fun _ _ r h=>by simp[subset_List.l0]at h
 |k+1=>by
  have D:=subset_List.mono_l k
  ·intro y0 y1;unfold subset_List.l0
   repeat' first
   |(with_reducible exact D _ _)
   |(with_reducible exact LeO.refl _)
   |(with_reducible exact LeO.none _)
   |(with_reducible refine LeO.ite ?_ ?_)
   |(with_reducible refine LeO.bind ?_ (fun _=>?_))
   |exact D _ _
   |exact LeO.none _
   |refine LeO.ite ?_ ?_
   |refine LeO.bind ?_ (fun _=>?_)
theorem subset_List.mono: ∀a0 k,LeO (subset_List.f k a0) (subset_List.f (k+1) a0):=by
 intro a0 k;have D:=subset_List.mono_l k;unfold subset_List.f
 repeat' first
  |(with_reducible exact D _ _)
  |(with_reducible exact LeO.refl _)
  |(with_reducible exact LeO.none _)
  |(with_reducible refine LeO.ite ?_ ?_)
  |(with_reducible refine LeO.bind ?_ (fun _=>?_))
  |exact D _ _
  |exact LeO.none _
  |refine LeO.ite ?_ ?_
  |refine LeO.bind ?_ (fun _=>?_)
set_option maxHeartbeats 8000000 in
set_option maxRecDepth 100000 in
theorem subset_List.calls(k:Nat)(a0:Int)(r:List Int)(w:World)(h:subset_List.f k a0=some r)(hT:TabAt 0 Lib.deBruijn64tab w):
 Calls Tryd.prog 47 #[.int .u64 a0] w fun e w'=> ∃v0_:Value,e= .returned (v0_)∧Kd.R (Kd.int .i64) 3 w' w.heap.size (fun _=>True) v0_ r∧Below w.heap.size w w':=by
 have HT:=aK hT;clear hT;have HB:=aK (Below.refl w.heap.size w);have H:(subset_List.l0 k a0 ([]:List Int))=some r:=h;clear h;have H':=aK H;clear H
 go_enter Tryd.func47,Tryd.ntmps47
 go_wp2
 go_loopg [0,3] k (fun kq v0 v3 w'=> ∃(D:Int) (I:List Int),v0= .int .u64 D∧Aside0 (subset_List.l0 kq D I=some r)∧Aside0 (kq≤k)∧Aside0 (Kd.R (Kd.int .i64) 3 w' w.heap.size (fun _=>True) v3 I)∧Aside0 (Below w.heap.size w w'))
 case atStart=>exact⟨(a0),(([]:List Int)),rsE,H',⟨Nat.le_refl _⟩,⟨nilE⟩,⟨hbA HB.out⟩⟩
 case round=>
  clear H';obtain⟨D,I,rfl,HA,X,HO_3,HB⟩:=hrel
  cases gk with
  |zero=>exact absurd HA.out (by simp[subset_List.l0])
  |succ k1=>
   have H:=HA.out;clear HA;simp only[subset_List.l0]at H;by_cases c2:D=0
   ·rw[if_pos c2]at H
    have c2b0:(D==0)=true:=beq_iff_eq.mpr c2;have c2b1:(D !=0)=false:=bne_eq_false_iff_eq.mpr c2;clear c2;obtain rfl:=Option.some.inj H;go_wp2
    go_ret
    exact⟨_,rfE,by(with_reducible repeat(first|apply Kd.R_alloc|apply Kd.R_drewN|apply Kd.R_drew));exact HO_3.out,hbA HB.out⟩
   ·rw[if_neg c2]at H
    have c2b0:(D==0)=false:=beq_eq_false_iff_ne.mpr c2;have c2b1:(D !=0)=true:=bne_iff_ne.mpr c2;obtain⟨J,A3,H⟩:=bindO H
    (try dsimp only at H)
    by_cases c4:I.length<17592186044416
    ·rw[if_pos c4]at H
     have Y:=aK c4;clear c4;obtain⟨L,G⟩: ∃y_:List Int,y_=(I++ [J]):=⟨_,rfl⟩
     replace H:(subset_List.l0 k1 (Go.bits .and .u64 D (IntKind.u64.wrap (D-1))) L)=some r:=by first|(rw[G];with_reducible exact H)|(have H2_:=(Option.bind_some _ _).symm.trans H;rw[G];with_reducible exact H2_)|(have H2_:=(Option.bind_some _ _).symm.trans H;with_reducible exact H2_)|with_reducible exact H|(rw[G];exact H)|exact H
     have U:=aK G;clear G;have H':=aK H;clear H
     go_wp2_with (first|((with_reducible refine gC 71 rfl ?_);refine cG (some 12) Tryd.func71 #[.int .u64 D] ?_;(with_reducible refine(bits_TrailingZeros64.calls D J _ A3.out (tab_below HT.out zi)).mono ?_);rintro e w' ⟨rfl,⟨nd,rfl⟩⟩;refine⟨_,rfl,?_⟩)|((with_reducible refine gate_builtin (b:= .append) (xs:= #[.tmp 10,.tmp 13]) rfl ?_);at_builtin;refine Kd.R_append (Kd.int .i64) (w0:=w) w.heap.size rfl (.tmp 10) (.tmp 13) 42 3 (.int .i64 0) 8 rfl Tryd.underlying42 info3 rfl zc za u3 I J [.int .i64 J] (fun _=>True) (fun _=>False) rfl rfl ?aP (fun _ hk=>hk.elim) ?aF ?aO ?aB ?aS ?aL ?_;(case aP=>exact rfl);(case aB=>exact(hbA HB.out));(case aF=>exact(fun _ _=>trivial));(case aO=>exact(kdA HO_3.out));(case aS=>exact(below_size (hbA HB.out)));(case aL=>have:=Y.out;omega);intro Z w5 ho hb hg hat;rw[←U.out]at ho;have n0_:=aK (hb);have n1_:=aK (ho);clear HB;clear HO_3;have HB:=n0_;have O:=n1_;clear n0_ n1_;clear ho hb hg hat))
     go_roundg k1
     case measure=>have:=X.out;omega
     case rel=>exact⟨(Go.bits .and .u64 D (IntKind.u64.wrap (D-1))),(L),rsE,H',⟨by have:=X.out;omega⟩,⟨kdA O.out⟩,⟨hbA HB.out⟩⟩
    ·rw[if_neg c4]at H
     exact absurd H zd
def matrix_blank.f(a0:Int)(a1:Int):Option (Int×Int×List Int):=if 0≤(wrap64 (a0*a1))then(if(wrap64 (a0*a1):Int).toNat≤281474976710656 then(some (a0,a1,(List.replicate (wrap64 (a0*a1):Int).toNat 0)))else(none))else(none)
set_option maxHeartbeats 8000000 in
set_option maxRecDepth 100000 in
theorem matrix_blank.calls(a0:Int)(a1:Int)(r1:Int)(r2:Int)(r3:List Int)(w:World)(h:matrix_blank.f a0 a1=some (r1,r2,r3)):
 Calls Tryd.prog 69 #[.int .i64 a0,.int .i64 a1] w fun e w'=> ∃v2_:Value,e= .returned (.agg #[.int .i64 r1,.int .i64 r2,v2_])∧Kd.R (Kd.int .u8) 5 w' w.heap.size (fun _=>True) v2_ r3∧Below w.heap.size w w':=by
 have al:=Tryd.underlying24;have HB:=aK (Below.refl w.heap.size w);have H:(if 0≤(wrap64 (a0*a1))then(if(wrap64 (a0*a1):Int).toNat≤281474976710656 then(some (a0,a1,(List.replicate (wrap64 (a0*a1):Int).toNat 0)))else(none))else(none))=some (r1,r2,r3):=h;clear h;obtain⟨I,L⟩: ∃j_:Int,(wrap64 (a0*a1))=j_:=⟨_,rfl⟩
 replace H:(if 0≤(I)then(if(I:Int).toNat≤281474976710656 then(some (a0,a1,(List.replicate (I:Int).toNat 0)))else(none))else(none))=some (r1,r2,r3):=by first|(rw[L]at H;exact H)|(simp only[L]at H⊢;exact H)
 have hji3w:(IntKind.i64.wrap (a0*a1))=I:=(i64_w _).trans L;by_cases c4:0≤(I)
 ·rw[if_pos c4]at H
  have c4b0:=eq_true c4;have c4b1:decide (0≤(I))=true:=decide_eq_true c4;clear c4;by_cases c5:(I:Int).toNat≤281474976710656
  ·rw[if_pos c5]at H
   have c5b0:=eq_true c5;have c5b1:decide ((I:Int).toNat≤281474976710656)=true:=decide_eq_true c5;clear c5;obtain⟨Y,G⟩: ∃y_:List Int,y_=(List.replicate (I:Int).toNat 0):=⟨_,rfl⟩
   replace H:(some (a0,a1,Y))=some (r1,r2,r3):=by first|(rw[G];with_reducible exact H)|(have H2_:=(Option.bind_some _ _).symm.trans H;rw[G];with_reducible exact H2_)|(have H2_:=(Option.bind_some _ _).symm.trans H;with_reducible exact H2_)|with_reducible exact H|(rw[G];exact H)|exact H
   have U:=aK G;clear G;simp only[Option.some.injEq,Prod.mk.injEq]at H;obtain⟨rfl,rfl,rfl⟩:=H
   go_enter Tryd.func69,Tryd.ntmps69
   go_wp2_with (first|((with_reducible refine gD 4 rfl ?_);refine bE 4 #[.int .i64 0,.int .i64 0,.slice none 0 0] 24 ?_;intro J hg w6 hbox hb;have D:=aK (hbox);have aj:=hbS HB hg;have ai:=hbS HB hg;replace HB:=hbB HB hb;clear hb hbox hg)|((with_reducible refine gate_dst (N:=10) rfl ?_);refine Kd.R_make (Kd.int .u8) _ 5 rfl (N:=10) rfl 22 _ _ rfl I rfl rfl Tryd.underlying22 (.int .u8 0) 1 info5 rfl zc za 0 (ok:=fun _=>True) (okp:=fun _=>True) rfl (fun _ hk=>hk) trivial (of_decide_eq_true asE) (Nat.le_trans (Nat.mul_le_mul_right _ (of_decide_eq_true asE:I.toNat≤281474976710656)) za) (Below.refl _ _) (Nat.le_refl _) ?_;intro am w7 X hb hg_ hnew_;clear hg_ hnew_;(first|rw[←U.out]at X|(simp only[Int.reduceToNat]at X;rw[←U.out]at X));have O:=aK (Kd.R_lower X (below_size (hbA HB.out)));replace D:=bkB D hb;replace HB:=hbB HB hb;clear hb X;obtain⟨Z,aa,ak⟩:=Kd.R_slice O.out;subst ak;obtain⟨ab,ac,ae,af,ag,ah⟩:=cell3 D))
   refine bodyPost_ret (results_cell_row rfl _ _ J 24 #[.int .i64 a0,.int .i64 a1,.slice Z Y.length aa] (0,0) _ rfl zan Tryd.underlying24 rfl zb) rfl ?_;exact⟨_,by first|rfl|(simp[errW_none,errW_some]<;>rfl)|(simp only[←L];first|rfl|(simp[errW_none,errW_some]<;>rfl))|(simp[*,errW_none,errW_some]<;>rfl),by(with_reducible repeat(first|apply Kd.R_alloc|apply Kd.R_drewN|apply Kd.R_drew));exact Kd.R_mono (Kd.R_far (p:=⟨J,2,none⟩) (Kd.R_far (p:=⟨J,1,none⟩) (Kd.R_far (p:=⟨J,0,none⟩) (Kd.R_types O.out D.out zc) (fun _ hk=>hk.2) (.int .i64 a0)) (fun _ hk=>hk.2) (.int .i64 a1)) (fun _ hk=>hk.2) (.slice Z Y.length aa)) (fun _ hk=>trivial),hbA HB.out⟩
  ·rw[if_neg c5]at H
   exact absurd H zd
 ·rw[if_neg c4]at H
  exact absurd H zd
def field_double.f(a0:Int):Option (Int):=if(Go.bits .and .u8 a0 128)=0 then(some ((a0*2) % 256))else(some (Go.bits .xor .u8 ((a0*2) % 256) 29))
set_option maxHeartbeats 8000000 in
set_option maxRecDepth 100000 in
theorem field_double.calls(a0:Int)(r:Int)(w:World)(h:field_double.f a0=some r):
 Calls Tryd.prog 99 #[.int .u8 a0] w fun e w'=>e= .returned (.int .u8 r)∧Drawn0 w w':=by
 have H:(if(Go.bits .and .u8 a0 128)=0 then(some ((a0*2) % 256))else(some (Go.bits .xor .u8 ((a0*2) % 256) 29)))=some r:=h;clear h;by_cases c2:(Go.bits .and .u8 a0 128)=0
 ·rw[if_pos c2]at H
  have c2b0:((Go.bits .and .u8 a0 128)==0)=true:=beq_iff_eq.mpr c2;have c2b1:((Go.bits .and .u8 a0 128)!=0)=false:=bne_eq_false_iff_eq.mpr c2;clear c2;obtain rfl:=Option.some.inj H
  go_enter Tryd.func99,Tryd.ntmps99
  go_wp2
  go_ret
  exact⟨by first|rfl|(simp;done)|(simp[*];done),by repeat(first|exact Drawn0.refl _|apply Drawn0.step)⟩
 ·rw[if_neg c2]at H
  have c2b0:((Go.bits .and .u8 a0 128)==0)=false:=beq_eq_false_iff_ne.mpr c2;have c2b1:((Go.bits .and .u8 a0 128)!=0)=true:=bne_iff_ne.mpr c2;obtain rfl:=Option.some.inj H
  go_enter Tryd.func99,Tryd.ntmps99
  go_wp2
  go_ret
  exact⟨by first|rfl|(simp;done)|(simp[*];done),by repeat(first|exact Drawn0.refl _|apply Drawn0.step)⟩
def field_bounded.f(a0:Int):Option (Int):=some (Int.tmod (wrap64 ((Int.tmod a0 255)+255)) 255)
set_option maxHeartbeats 8000000 in
set_option maxRecDepth 100000 in
theorem field_bounded.calls(a0:Int)(r:Int)(w:World)(h:field_bounded.f a0=some r):
 Calls Tryd.prog 102 #[.int .i64 a0] w fun e w'=>e= .returned (.int .i64 r)∧Drawn0 w w':=by
 have H:(some (Int.tmod (wrap64 ((Int.tmod a0 255)+255)) 255))=some r:=h;clear h;obtain rfl:=Option.some.inj H
 go_enter Tryd.func102,Tryd.ntmps102
 go_wp2
 go_ret
 exact⟨by first|rfl|(simp;done)|(simp[*];done),by repeat(first|exact Drawn0.refl _|apply Drawn0.step)⟩
def field_build.dbl(a:Int):Int:=(field_double.f a).getD 0
def field_build.st:Nat→List Int×List Int×Int
 |0=>(List.replicate 510 0,List.replicate 256 0,1)
 |n+1=>let s:=field_build.st n;((s.1.set n s.2.2).set (n+255) s.2.2,s.2.1.set s.2.2.toNat n,field_build.dbl s.2.2)
def field_build.cells(e l:List Int):Array Value:=(nums .u8 e++nums .i64 l).toArray
def field_build.T:Array Value:=field_build.cells (field_build.st 255).1 (field_build.st 255).2.1
theorem field_build.st_length(n:Nat):(field_build.st n).1.length=510∧(field_build.st n).2.1.length=256:=by
 induction n with
 |zero=>exact⟨List.length_replicate,List.length_replicate⟩
 |succ n ih=>
  unfold field_build.st;simp only[List.length_set];exact ih
def field_build.elsB:Nat→Int→Bool
 |0,_=>true
 |n+1,a=>decide (0≤a)&&decide (a<256)&&field_build.elsB n (field_build.dbl a)
theorem field_build.els_ok:field_build.elsB 256 1=true:=by decide+kernel
theorem field_build.elsB_at: ∀(n:Nat) (k:Nat),n<k→field_build.elsB (k-n) (field_build.st n).2.2=true→0≤(field_build.st n).2.2∧(field_build.st n).2.2<256∧field_build.elsB (k-(n+1)) (field_build.st (n+1)).2.2=true:=by
 intro n k hk h;obtain⟨j,hj⟩: ∃j,k-n=j+1:=⟨k-n-1,by omega⟩
 rw[hj]at h
 simp only[field_build.elsB,Bool.and_eq_true,decide_eq_true_eq]at h;refine⟨h.1.1,h.1.2,?_⟩;rw[show k-(n+1)=j from by omega];exact h.2
theorem field_build.elsB_all: ∀n,n≤255→field_build.elsB (256-n) (field_build.st n).2.2=true
 |0,_=>field_build.els_ok
 |n+1,h=>(field_build.elsB_at n 256 za (field_build.elsB_all n za)).2.2
theorem field_build.el_range(n:Nat)(h:n≤255):0≤(field_build.st n).2.2∧(field_build.st n).2.2<256:=
 ⟨(field_build.elsB_at n 256 za (field_build.elsB_all n h)).1,(field_build.elsB_at n 256 za (field_build.elsB_all n h)).2.1⟩
theorem field_build.cells_size(e l:List Int):(field_build.cells e l).size=e.length+l.length:=by simp[field_build.cells,nums]
theorem field_build.cell_exp{e l:List Int}{j:Nat}(h:j<e.length):(field_build.cells e l)[j]? =some (.int .u8 (e.getD j 0)):=by
 simp[field_build.cells,nums,List.getElem?_append_left,h,List.getD_eq_getElem?_getD]
theorem field_build.cell_log{e l:List Int}{j:Nat}(h:j<l.length):(field_build.cells e l)[e.length+j]? =some (.int .i64 (l.getD j 0)):=by
 simp[field_build.cells,nums,h,List.getD_eq_getElem?_getD]
theorem field_build.set_exp{e l:List Int}{j:Nat}(h:j<e.length)(x:Int):(field_build.cells e l).setIfInBounds j (.int .u8 x)=field_build.cells (e.set j x) l:=by
 simp only[field_build.cells,nums,List.setIfInBounds_toArray];rw[List.set_append_left _ _ (by simpa using h),List.map_set]
theorem field_build.set_log{e l:List Int}{j:Nat}(x:Int):(field_build.cells e l).setIfInBounds (e.length+j) (.int .i64 x)=field_build.cells e (l.set j x):=by
 simp only[field_build.cells,nums,List.setIfInBounds_toArray];rw[List.set_append_right _ _ zd,List.map_set];simp
theorem field_build.one(e l:List Int):(field_build.cells e l).all (·.oneCell')=true:=by
 rw[Array.all_eq_true_iff_forall_mem];intro x hx;simp only[field_build.cells,nums,List.mem_toArray,List.mem_append,List.mem_map]at hx;rcases hx with⟨y,_,rfl⟩|⟨y,_,rfl⟩<;>rfl
def field_build.Z:Array Value:=field_build.cells (List.replicate 510 0) (List.replicate 256 0)
theorem field_build.zero(w:World):(zeroValue 116).run Tryd.prog w= .ok (.agg field_build.Z) w:=by kernel_rfl
theorem field_build.info:(Tryd.prog.info? 116).map (·.size)=some 766:=by kernel_rfl
theorem field_build.T_size:field_build.T.size=766:=by
 obtain⟨h1,h2⟩:=field_build.st_length 255;unfold field_build.T;rw[field_build.cells_size,h1,h2]
theorem field_build.infoT:(Tryd.prog.info? 116).map (·.size)=some field_build.T.size:=by rw[field_build.T_size];exact field_build.info
theorem field_build.oneT:field_build.T.all (·.oneCell')=true:=field_build.one _ _
theorem field_build.sizeZ:field_build.Z.size=field_build.T.size:=by
 unfold field_build.Z;rw[field_build.T_size,field_build.cells_size,List.length_replicate,List.length_replicate]
theorem field_build.dbl_call{a:Int} :field_double.f a=some (field_build.dbl a):=by
 unfold field_build.dbl field_double.f
 split<;>rfl
set_option maxHeartbeats 2000000 in
set_option maxRecDepth 100000 in
theorem field_build.calls(w:World):Calls Tryd.prog 86 #[] w fun e w'=>e= .returned (.agg field_build.T)∧Below w.heap.size w w':=by
 have hz:=field_build.zero
 go_enter Tryd.func86,Tryd.ntmps86
 go_wp2_with fail
 go_loopw [2,4] (fun v2 v4 wr=> ∃n:Nat,n≤255∧v4= .int .i64 n∧v2= .int .u8 (field_build.st n).2.2∧Aside0 (wr.heap[w.heap.size+1]? =some (.cells (field_build.cells (field_build.st n).1 (field_build.st n).2.1) 116 (0,0)))∧Aside0 (wr.heap[w.heap.size]? =some (.cells field_build.Z 116 (0,0)))∧Aside0 (Below w.heap.size w wr)) (fun _ v _=>255-(intOf v).toNat)
 case atStart=>
  refine⟨0,by omega,rfl,rfl,⟨?_⟩,⟨?_⟩,⟨below_alloc (below_alloc (Below.refl _ _) _) _⟩⟩
  ·exact(heap_alloc2_new w _ _).trans rfl
  ·exact heap_alloc2_old w _ _
 case round=>
  obtain⟨n,hn,rfl,rfl,HT,HR,HB⟩:=hrel;obtain⟨l1,l2⟩:=field_build.st_length n;by_cases hlt:n<255
  ·obtain⟨r0,r1⟩:=field_build.el_range n hn;obtain⟨a,ha⟩: ∃a,a=(field_build.st n).2.2:=⟨_,rfl⟩
   obtain⟨e,he⟩: ∃e,e=(field_build.st n).1:=⟨_,rfl⟩
   obtain⟨l,hl⟩: ∃l,l=(field_build.st n).2.1:=⟨_,rfl⟩
   rw[←he,←hl]at HT
   rw[←ha]at r0 r1⊢
   rw[←he]at l1
   rw[←hl]at l2
   have HA:=aK ha;have HE:=aK he;have HL:=aK hl;clear ha he hl;have G:=(blk_cell HT.out n).trans (field_build.cell_exp za);have I:=(blk_cell HT.out (n+255)).trans (field_build.cell_exp za);have J:wr.cell? ⟨w.heap.size+1,510+a.toNat,none⟩=some (.int .i64 (l.getD a.toNat 0)):=by
    rw[blk_cell HT.out,←l1];exact field_build.cell_log za
   have L:=blk_frozen HT.out n;have O:=blk_frozen HT.out (n+255);have U:=blk_frozen HT.out (510+a.toNat);have q1:(n+255=510+a.toNat)=False:=by simp;omega
   have q2:(n=510+a.toNat)=False:=by simp;omega
   have q3:(510+a.toNat=n+255)=False:=by simp;omega
   have q4:(510+a.toNat=n)=False:=by simp;omega
   have L1:=aK l1;have L2:=aK l2;clear l1 l2
   go_wp2_with (go_at_call 99;refine(field_double.calls a (field_build.dbl a) _ field_build.dbl_call).mono ?_;rintro e' w' ⟨rfl,⟨nd,rfl⟩⟩)
   go_roundw
   case rel=>
    refine⟨n+1,by omega,by go_num,?_,⟨?_⟩,⟨?_⟩,⟨?_⟩⟩
    ·rw[HA.out];rfl
    ·have s1:=blk_set HT.out n (.int .u8 a);have s2:=blk_set s1 (n+255) (.int .u8 a);have s3:=blk_set s2 (510+a.toNat) (.int .i64 n);refine(blk_drewN s3 _).trans ?_;rw[field_build.set_exp (by rw[L1.out];omega),field_build.set_exp (by rw[List.length_set,L1.out];omega),←L1.out];have s4:=field_build.set_log (e:=(e.set n a).set (n+255) a) (l:=l) (j:=a.toNat) (n:Int);simp only[List.length_set]at s4;rw[s4,HA.out,HE.out,HL.out];rfl
    ·exact blk_drewN (blk_far (blk_far (blk_far HR.out zd _) zd _) zd _) _
    ·exact pw_below_drewN (((HB.out.setCell zd _).setCell zd _).setCell zd _) _
   case measure=>simp[intOf];omega
  ·have hT:wr.heap[w.heap.size+1]? =some (.cells field_build.T 116 (0,0)):=by
    have h:=HT.out;rw[show n=255 from by omega]at h
    exact h
   have D:=aK hT;clear hT HT l1 l2;generalize(field_build.st n).2.2=a
   go_wp2_with (first|(with_reducible refine wpList_load_row rfl 116 (.tmp 1) rfl (w.heap.size+1) rfl 116 field_build.T (0,0) _ D.out Tryd.underlying116 rfl field_build.infoT ?_)|(with_reducible refine wpList_store_row rfl 116 (.tmp 0) (.tmp 23) rfl w.heap.size field_build.T rfl rfl 116 _ HR.out field_build.infoT field_build.sizeZ field_build.oneT ?_))
   exact bodyPost_ret (v:= .agg field_build.T) (results_cell_row rfl _ _ w.heap.size 116 field_build.T (0,0) _ rfl (setRow_heap _ _ _ _ _ _ HR.out) Tryd.underlying116 rfl field_build.infoT) rfl ⟨rfl,below_setRow HB.out (Nat.le_refl _) _⟩
def field_build.logB(l:List Int):Bool:=l.all fun x=>decide (0≤x)&&decide (x<255)
theorem field_build.log_ok:field_build.logB (field_build.st 255).2.1=true:=by decide+kernel
def field_build.exp(i:Nat):Int:=(field_build.st 255).1.getD i 0
def field_build.log(i:Nat):Int:=(field_build.st 255).2.1.getD i 0
theorem field_build.log_range{i:Nat}(h:i<256):0≤field_build.log i∧field_build.log i<255:=by
 have hl:=(field_build.st_length 255).2;have h1:=List.all_eq_true.1 field_build.log_ok ((field_build.st 255).2.1[i]' za) (List.getElem_mem _);unfold field_build.log;rw[List.getD_eq_getElem?_getD,List.getElem?_eq_getElem za];simpa using h1
theorem field_build.cellE{W:World}{g:Nat}(h:W.heap[g]? =some (.cells field_build.T 116 (0,0))){j:Nat}(hj:j<510):W.cell? ⟨g,j,none⟩=some (.int .u8 (field_build.exp j)):=by
 rw[blk_cell h];exact field_build.cell_exp (by rw[(field_build.st_length 255).1];exact hj)
theorem field_build.cellL{W:World}{g:Nat}(h:W.heap[g]? =some (.cells field_build.T 116 (0,0))){j:Nat}(hj:j<256):W.cell? ⟨g,510+j,none⟩=some (.int .i64 (field_build.log j)):=by
 rw[blk_cell h];have h1:=field_build.cell_log (e:=(field_build.st 255).1) (l:=(field_build.st 255).2.1) (j:=j) (by rw[(field_build.st_length 255).2];exact hj);rw[(field_build.st_length 255).1]at h1
 exact h1
def field_Pow.f(a n:Int):Option (Int×Int):=
 if n=0 then some (1,0)else if a=0 then(if n<0 then some (0,5)else some (0,0))
 else if 0≤a∧a<256 then(field_bounded.f n).bind fun b=>if 0≤b∧b<255 then some (field_build.exp ((field_build.log a.toNat*b) % 255).toNat,0)else none else none
set_option maxHeartbeats 2000000 in
set_option maxRecDepth 100000 in
theorem field_Pow.calls(a0 a1:Int)(r1 r2:Int)(w:World)(h:field_Pow.f a0 a1=some (r1,r2)):
 Calls Tryd.prog 100 #[.int .u8 a0,.int .i64 a1] w fun e w'=>e= .returned (.tuple #[.int .u8 r1,.int .i64 r2])∧Below w.heap.size w w':=by
 unfold field_Pow.f at h;by_cases h1:a1=0
 ·rw[if_pos h1]at h
  obtain⟨rfl,rfl⟩:=Prod.mk.inj (Option.some.inj h);have c1:(a1==0)=true:=beq_iff_eq.mpr h1;clear h1 h
  go_enter Tryd.func100,Tryd.ntmps100
  go_wp2
  go_ret2
  exact⟨rfl,Below.refl _ _⟩
 ·rw[if_neg h1]at h
  have c1:(a1==0)=false:=beq_eq_false_iff_ne.mpr h1;clear h1;by_cases h2:a0=0
  ·rw[if_pos h2]at h
   have c2:(a0==0)=true:=beq_iff_eq.mpr h2;clear h2;by_cases h3:a1<0
   ·rw[if_pos h3]at h
    obtain⟨rfl,rfl⟩:=Prod.mk.inj (Option.some.inj h);clear h
    go_enter Tryd.func100,Tryd.ntmps100
    go_wp2
    go_ret2
    exact⟨rfl,Below.refl _ _⟩
   ·rw[if_neg h3]at h
    obtain⟨rfl,rfl⟩:=Prod.mk.inj (Option.some.inj h);clear h
    go_enter Tryd.func100,Tryd.ntmps100
    go_wp2
    go_ret2
    exact⟨rfl,Below.refl _ _⟩
  ·rw[if_neg h2]at h
   have c2:(a0==0)=false:=beq_eq_false_iff_ne.mpr h2;clear h2;by_cases h3:0≤a0∧a0<256
   ·rw[if_pos h3]at h
    obtain⟨b,hb,h⟩:=Option.bind_eq_some_iff.mp h;by_cases h4:0≤b∧b<255
    ·rw[if_pos h4]at h
     obtain⟨h5,h6⟩:=Prod.mk.inj (Option.some.inj h);obtain⟨I,J⟩:=h3;obtain⟨b0,b1⟩:=h4;have HBd:=aK hb;have H5:=aK h5;subst h6;clear hb h h5;obtain⟨x0,x1⟩:=field_build.log_range (i:=a0.toNat) za;have hlog: ∀W:World,∀g,W.heap[g]? =some (.cells field_build.T 116 (0,0))→W.cell? ⟨g,510+a0.toNat,none⟩=some (.int .i64 (field_build.log a0.toNat)):=fun W g hW=>field_build.cellL hW za;have hexp: ∀W:World,∀g,W.heap[g]? =some (.cells field_build.T 116 (0,0))→W.cell? ⟨g,((field_build.log a0.toNat*b) % 255).toNat,none⟩=some (.int .u8 (field_build.exp ((field_build.log a0.toNat*b) % 255).toNat)):=fun W g hW=>field_build.cellE hW za;have HLG:=aK hlog;have HEX:=aK hexp;clear hlog hexp;generalize field_build.log a0.toNat=x at*;have m0:0≤x*b:=Int.mul_nonneg x0 b0;have m1:x*b≤254*254:=Int.mul_le_mul za za b0 za;have e1:IntKind.i64.wrap (x*b)=x*b:=by rw[i64_w];unfold wrap64;omega
     obtain⟨q,hq⟩: ∃q:Int,q=x*b % 255:=⟨_,rfl⟩
     have e2:Int.tmod (x*b) 255=q:=by rw[hq];exact Int.tmod_eq_emod_of_nonneg m0
     have q0:0≤q:=by omega
     have q1:q<255:=by omega
     have e3:IntKind.i64.wrap q=q:=by rw[i64_w];unfold wrap64;omega
     rw[←hq]at HEX H5
     clear hq m0 m1;have hz:=field_build.zero
     go_enter Tryd.func100,Tryd.ntmps100
     go_wp2_with (first|(go_at_call 86;refine(field_build.calls _).mono ?_;rintro e w1 ⟨rfl,D⟩;have G:=aK D;clear D)|(with_reducible refine wpList_store_row rfl 116 (.tmp 6) (.tmp 20) rfl w1.heap.size field_build.T rfl rfl 116 _ (blk_new _ _) field_build.infoT field_build.sizeZ field_build.oneT ?_;rw[World.setRow_alloc_new];have L:=HLG.out _ _ (blk_new w1 (.cells field_build.T 116));have O:=HEX.out _ _ (blk_new w1 (.cells field_build.T 116))))
     simp only[Act.put,List.setIfInBounds_toArray,List.set_cons_succ,List.set_cons_zero]
     go_quiet ((go_at_call 102;exact Calls.quiet_of ((field_bounded.calls a1 b _ HBd.out).mono (fun _ _ h=>⟨h.1,h.2.out⟩))))
     go_wp2
     go_ret2
     exact⟨by rw[←H5.out];rfl,by repeat(first|exact G.out|apply pw_below_drewN|apply below_alloc)⟩
    ·rw[if_neg h4]at h
     cases h
   ·rw[if_neg h3]at h
    cases h
def field_Inv.f(a0:Int):Option (Int×Int):=(field_Pow.f a0 (-1)).bind fun D=>(some (D.1,D.2))
set_option maxHeartbeats 8000000 in
set_option maxRecDepth 100000 in
theorem field_Inv.calls(a0:Int)(r1:Int)(r2:Int)(w:World)(h:field_Inv.f a0=some (r1,r2)):
 Calls Tryd.prog 93 #[.int .u8 a0] w fun e w'=>e= .returned (.tuple #[.int .u8 r1,.int .i64 r2])∧Below w.heap.size w w':=by
 have HB:=aK (Below.refl w.heap.size w);have H:((field_Pow.f a0 (-1)).bind fun D=>(some (D.1,D.2)))=some (r1,r2):=h;clear h;obtain⟨⟨G,I⟩,A2,H⟩:=bindO H
 (try dsimp only at H)
 simp only[Option.some.injEq,Prod.mk.injEq]at H;obtain⟨rfl,rfl⟩:=H
 go_enter Tryd.func93,Tryd.ntmps93
 go_wp2_with (first|((with_reducible refine gC 100 rfl ?_);refine cG (some 5) Tryd.func100 #[.int .u8 a0,.int .i64 (-1)] ?_;(with_reducible refine(field_Pow.calls a0 (-1) G I _ A2.out).mono ?_);rintro e w3 ⟨rfl,hb⟩;refine⟨_,rfl,?_⟩;replace HB:=hbB HB hb;(try clear hb)))
 go_ret2
 exact⟨rfE,hbA HB.out⟩
def mulT(a b:Int):Int:=if a=0 then 0 else if b=0 then 0 else field_build.exp (field_build.log a.toNat+field_build.log b.toNat).toNat
set_option maxHeartbeats 2000000 in
set_option maxRecDepth 100000 in
theorem tables_mul.calls(g:Nat)(a b:Int)(w:World)(hb:w.heap[g]? =some (.cells field_build.T 116 (0,0)))(a0:0≤a)(a1:a<256)(b0:0≤b)(b1:b<256):
 Calls Tryd.prog 87 #[.pointer (some ⟨g,0,none⟩),.int .u8 a,.int .u8 b] w fun e w'=>e= .returned (.int .u8 (mulT a b))∧Drawn0 w w':=by
 have HT:=aK hb;clear hb;by_cases h1:a=0
 ·have c1:(a==0)=true:=beq_iff_eq.mpr h1;have hfin:=aK (show mulT a b=0 by unfold mulT;rw[if_pos h1]);clear h1
  go_enter Tryd.func87,Tryd.ntmps87
  go_wp2
  go_ret
  exact⟨by rw[hfin.out];rfl,Drawn0.refl _⟩
 ·have c1:(a==0)=false:=beq_eq_false_iff_ne.mpr h1;by_cases h2:b=0
  ·have c2:(b==0)=true:=beq_iff_eq.mpr h2;have hfin:=aK (show mulT a b=0 by unfold mulT;rw[if_neg h1,if_pos h2]);clear h1 h2
   go_enter Tryd.func87,Tryd.ntmps87
   go_wp2
   go_ret
   exact⟨by rw[hfin.out];rfl,Drawn0.refl _⟩
  ·have c2:(b==0)=false:=beq_eq_false_iff_ne.mpr h2;have hfin:=aK (show mulT a b=field_build.exp (field_build.log a.toNat+field_build.log b.toNat).toNat by unfold mulT;rw[if_neg h1,if_neg h2]);clear h1 h2;obtain⟨x0,x1⟩:=field_build.log_range (i:=a.toNat) za;obtain⟨y0,y1⟩:=field_build.log_range (i:=b.toNat) za;have D:=field_build.cellL HT.out (j:=a.toNat) za;have G:=field_build.cellL HT.out (j:=b.toNat) za;have I:=field_build.cellE HT.out (j:=(field_build.log a.toNat+field_build.log b.toNat).toNat) za;generalize field_build.log a.toNat=x at*;generalize field_build.log b.toNat=y at*
   go_enter Tryd.func87,Tryd.ntmps87
   go_wp2
   go_quiet (fail)
   go_wp2
   go_ret
   exact⟨by rw[hfin.out];rfl,by repeat(first|exact Drawn0.refl _|apply Drawn0.step)⟩
def bytesB(l:List Int):Bool:=l.all fun x=>decide (0≤x)&&decide (x<256)
theorem bytesB_at{l:List Int}(h:bytesB l=true){i:Nat}(hi:i<l.length):0≤l.getD i 0∧l.getD i 0<256:=by
 have h1:=List.all_eq_true.1 h l[i] (List.getElem_mem hi);rw[List.getD_eq_getElem?_getD,List.getElem?_eq_getElem hi];simpa using h1
def field_Scale.f(c:Int)(l:List Int):Option (List Int):=if 0≤c∧c<256∧bytesB l=true∧l.length≤140737488355328 then some (l.map (mulT c))else none
def field_Scale.mid(c:Int)(l:List Int)(i:Nat):List Int:=(l.take i).map (mulT c)++List.replicate (l.length-i) 0
theorem field_Scale.mid_set(c:Int)(l:List Int)(i:Nat)(h:i<l.length):(field_Scale.mid c l i).set i (mulT c (l.getD i 0))=field_Scale.mid c l (i+1):=by
 unfold field_Scale.mid;obtain⟨d,hd⟩: ∃d,l.length-i=d+1:=⟨l.length-i-1,by omega⟩
 rw[hd,List.set_append,if_neg zl,show l.length-(i+1)=d from by omega,List.take_succ_eq_append_getElem h,List.map_append];have e:i-((l.take i).map (mulT c)).length=0:=by simp;omega
 rw[e,List.replicate_succ,List.set_cons_zero,List.getD_eq_getElem?_getD,List.getElem?_eq_getElem h];simp
theorem field_Scale.info5:(Tryd.prog.info? 5).map (fun i=>(i.zero,i.size,i.bytes))=some (some (.int .u8 0),1,1):=by kernel_rfl
set_option maxHeartbeats 2000000 in
set_option maxRecDepth 100000 in
theorem field_Scale.calls(a0:Int)(A1:Option Addr)(c1:Nat)(l1:List Int)(r:List Int)(w:World)(J:Kd.C (Kd.int .u8) w A1 l1.length l1)(U:l1.length≤c1)(h:field_Scale.f a0 l1=some r):
 Calls Tryd.prog 95 #[.int .u8 a0,.slice A1 l1.length c1] w fun e w'=> ∃v0_:Value,e= .returned (v0_)∧Kd.R (Kd.int .u8) 5 w' w.heap.size (fun _=>True) v0_ r∧Below w.heap.size w w':=by
 unfold field_Scale.f at h;by_cases hh:0≤a0∧a0<256∧bytesB l1=true∧l1.length≤140737488355328
 ·rw[if_pos hh]at h
  obtain⟨h0,h1,hbs,hlen⟩:=hh;have HF:=aK (Option.some.inj h);have HBS:=aK hbs;have HC:=aK J;clear h hbs J;obtain⟨len,hlen'⟩: ∃n,n=l1.length:=⟨_,rfl⟩
  rw[←hlen']at hlen U HC⊢
  have HLN:=aK hlen';clear hlen';have hz:=field_build.zero;have hmk:=print_make (P:=Tryd.prog) 22 5 .u8 1 Tryd.underlying22 field_Scale.info5 zc len za
  go_enter Tryd.func95,Tryd.ntmps95
  go_wp2_with (first|(go_at_call 86;refine(field_build.calls _).mono ?_;rintro e w1 ⟨rfl,I⟩;have D:=aK I;clear I)|(with_reducible refine wpList_store_row rfl 116 (.tmp 5) (.tmp 9) rfl w1.heap.size field_build.T rfl rfl 116 _ (blk_new _ _) field_build.infoT field_build.sizeZ field_build.oneT ?_;rw[World.setRow_alloc_new];simp only[Act.put,List.setIfInBounds_toArray,List.set_cons_succ,List.set_cons_zero]))
  have Z:=D.out.size;have hown:=own_made (w1.alloc (.cells field_build.T 116)) w.heap.size 5 .u8 len zl za;rw[World.size_alloc]at hown
  have hTb:((w1.alloc (.cells field_build.T 116)).alloc (.cells (madeCells #[.int .u8 0] len) 5)).heap[w1.heap.size]? =some (.cells field_build.T 116 (0,0)):=heap_alloc2_old w1 _ _;have hBb:Below w.heap.size w ((w1.alloc (.cells field_build.T 116)).alloc (.cells (madeCells #[.int .u8 0] len) 5)):=below_alloc (below_alloc D.out _) _;generalize(w1.alloc (.cells field_build.T 116)).alloc (.cells (madeCells #[.int .u8 0] len) 5)=W1 at*
  go_loopw [15] (fun v wr=> ∃i:Nat,i≤len∧v= .int .i64 i∧Aside0 (wr.ownsRow w.heap.size 5 1 (.slice (some ⟨w1.heap.size+1,0,none⟩) len len) len (nums .u8 (field_Scale.mid a0 l1 i)))∧Aside0 (wr.heap[w1.heap.size]? =some (.cells field_build.T 116 (0,0)))∧Aside0 (Below w.heap.size w wr)) (fun v _=>len-(intOf v).toNat)
  case atStart=>
   refine⟨0,by omega,rfl,⟨?_⟩,⟨hTb⟩,⟨hBb⟩⟩;have:field_Scale.mid a0 l1 0=List.replicate len 0:=by simp[field_Scale.mid,←HLN.out]
   rw[this];exact hown
  case round=>
   obtain⟨i,hi,rfl,HO,HTB,HB⟩:=hrel;clear hown hTb hBb;by_cases hlt:i<len
   ·obtain⟨ad,eA,L⟩:=Kd.at_int HC.out (i:Int) za zal;subst eA;have O:=pw_cell_below HB.out L;have hx:wr.cell? (ad.add i)=some (.int .u8 (l1.getD i 0)):=by
     rw[show l1.getD i 0=rd l1 (i:Int)from by simp[rd]];simpa using O
    have hbi:=bytesB_at HBS.out (i:=i) zal;have HMS:=aK (field_Scale.mid_set a0 l1 i zal);obtain⟨x,ex⟩: ∃x:Int,x=l1.getD i 0:=⟨_,rfl⟩
    rw[←ex]at hx hbi HMS
    clear ex L O;obtain⟨x0,x1⟩:=hbi;obtain⟨X,Y⟩:=own_at HO.out (i:Int) za za;rw[Int.toNat_natCast]at X Y
    go_wp2_with (go_at_call 87;refine(tables_mul.calls w1.heap.size a0 x _ HTB.out h0 h1 x0 x1).mono ?_;rintro e w' ⟨rfl,⟨nd,rfl⟩⟩)
    go_roundw
    case rel=>
     refine⟨i+1,by omega,by go_num,⟨?_⟩,⟨?_⟩,⟨?_⟩⟩
     ·have h2:=(own_store (pw_own_drewN HO.out nd) (i:Int) (mulT a0 x)).1;rw[Int.toNat_natCast,HMS.out]at h2
      exact h2
     ·exact blk_far (blk_drewN HTB.out _) zd _
     ·exact(pw_below_drewN HB.out _).setCell zl _
    case measure=>simp[intOf];omega
   ·obtain rfl:i=len:=by omega
    have hfin:field_Scale.mid a0 l1 i=l1.map (mulT a0):=by unfold field_Scale.mid;rw[HLN.out];simp
    go_wp2
    go_ret
    refine⟨_,rfl,?_,HB.out⟩;have G:=HO.out;rw[hfin,HF.out]at G
    have hrl:r.length=i:=by rw[←HF.out,List.length_map];exact HLN.out.symm
    refine Kd.R_of_own ?_ (fun _ _=>trivial);rw[hrl];exact G
 ·rw[if_neg hh]at h
  cases h
def field_Mac.l0:Nat→List Int→List Int→Int→Int→Option (List Int×Int)
 |0,_,_,_,_=>none
 |k+1,x8,G,I,D=>if D<I then(if 0≤D then(if D<(G.length:Int)then(if D<(x8.length:Int)then(field_Mac.l0 k (x8.set (D:Int).toNat (Go.bits .xor .u8 (rd x8 D) (rd G D))) G I (wrap64 (D+1)))else(none))else(none))else(none))else(some (x8,0))
def field_Mac.f(k:Nat)(l0:List Int)(a1:Int)(l2:List Int):Option (List Int×Int):=if(l0.length:Int)=(l2.length:Int)then((field_Scale.f a1 l2).bind fun D=>(field_Mac.l0 k D l0 (l0.length:Int) 0))else(some (([]:List Int),3))
set_option maxHeartbeats 8000000 in
set_option maxRecDepth 100000 in
theorem field_Mac.calls(k:Nat)(A0:Option Addr)(c0:Nat)(l0:List Int)(a1:Int)(A2:Option Addr)(c2:Nat)(l2:List Int)(r1:List Int)(r2:Int)(w:World)(az:Kd.C (Kd.int .u8) w A0 l0.length l0)(aw:l0.length≤c0)(a0:Kd.C (Kd.int .u8) w A2 l2.length l2)(ax:l2.length≤c2)(h:field_Mac.f k l0 a1 l2=some (r1,r2)):
 Calls Tryd.prog 97 #[.slice A0 l0.length c0,.int .u8 a1,.slice A2 l2.length c2] w fun e w'=> ∃v0_:Value,e= .returned (.tuple #[v0_,.int .i64 r2])∧Kd.R (Kd.int .u8) 5 w' w.heap.size (fun _=>True) v0_ r1∧Below w.heap.size w w':=by
 have a6:=aK az;have bf:=aK aw;clear az aw;have a7:=aK a0;have a5:=aK ax;clear a0 ax;have HB:=aK (Below.refl w.heap.size w);have H:(if(l0.length:Int)=(l2.length:Int)then((field_Scale.f a1 l2).bind fun L=>(field_Mac.l0 k L l0 (l0.length:Int) 0))else(some (([]:List Int),3)))=some (r1,r2):=h;clear h;by_cases c4:(l0.length:Int)=(l2.length:Int)
 ·rw[if_pos c4]at H
  have c4b0:((l0.length:Int)==(l2.length:Int))=true:=beq_iff_eq.mpr c4;have c4b1:((l0.length:Int)!=(l2.length:Int))=false:=bne_eq_false_iff_eq.mpr c4;have c4b2:(l0.length==l2.length)=true:=by first|simpa using c4|(simp at c4⊢;omega)
  clear c4;obtain⟨L,A5,H⟩:=bindO H
  (try dsimp only at H)
  have H':=aK H;clear H
  go_enter Tryd.func97,Tryd.ntmps97
  go_wp2_with (first|((with_reducible refine gC 95 rfl ?_);refine cG (some 18) Tryd.func95 #[.int .u8 a1,.slice A2 l2.length c2] ?_;(with_reducible refine(field_Scale.calls a1 _ _ l2 L _ ?side1 ?side2 A5.out).mono ?_);(case side1=>exact kcA a7.out);(case side2=>exact a5.out);rintro e w6 ⟨a2,rfl,ay,hb⟩;refine⟨_,rfl,?_⟩;have ai:=aK (Kd.R_lower ay (below_size (hbA HB.out)));replace HB:=hbB HB hb;(try clear hb);(try clear ay)))
  go_loopg [21] k (fun kq ba w'=> ∃(G:List Int) (D:Int),ba= .int .i64 D∧Aside0 (field_Mac.l0 kq G l0 (l0.length:Int) D=some (r1,r2))∧Aside0 (kq≤k)∧Aside0 (Kd.R (Kd.int .u8) 5 w' w.heap.size (fun _=>True) a2 G)∧Aside0 (Below w.heap.size w w'))
  case atStart=>exact⟨(L),(0),rsE,H',⟨Nat.le_refl _⟩,⟨kdA ai.out⟩,⟨hbA HB.out⟩⟩
  case round=>
   clear H'
   (try clear c2);(try clear p2);(try clear c4);(try clear c4b0);(try clear c4b1);(try clear c4b2)
   obtain⟨G,D,rfl,HA,ao,HO_8,HB⟩:=hrel
   cases gk with
   |zero=>exact absurd HA.out (by simp[field_Mac.l0])
   |succ k1=>
    have H:=HA.out;clear HA;simp only[field_Mac.l0]at H;by_cases c7:D<(l0.length:Int)
    ·rw[if_pos c7]at H
     have c7b0:decide (D<(l0.length:Int))=true:=decide_eq_true c7;clear c7;by_cases c8:0≤D
     ·rw[if_pos c8]at H
      have c8b0:decide (0≤D)=true:=decide_eq_true c8;clear c8;by_cases c9:D<(l0.length:Int)
      ·rw[if_pos c9]at H
       have c9b0:decide (D<(l0.length:Int))=true:=decide_eq_true c9;clear c9;by_cases ae:D<(G.length:Int)
       ·rw[if_pos ae]at H
        have c10b0:decide (D<(G.length:Int))=true:=decide_eq_true ae;clear ae;obtain⟨ac,J⟩: ∃y_:List Int,y_=(G.set (D:Int).toNat (Go.bits .xor .u8 (rd G D) (rd l0 D))):=⟨_,rfl⟩
        replace H:(field_Mac.l0 k1 ac l0 (l0.length:Int) (wrap64 (D+1)))=some (r1,r2):=by first|(rw[J];with_reducible exact H)|(have H2_:=(Option.bind_some _ _).symm.trans H;rw[J];with_reducible exact H2_)|(have H2_:=(Option.bind_some _ _).symm.trans H;with_reducible exact H2_)|with_reducible exact H|(rw[J];exact H)|exact H
        have aj:=aK J;clear J;have H':=aK H;clear H;have Y:0≤(D:Int):=of_decide_eq_true asE;have aa:D<(l0.length:Int):=of_decide_eq_true asE;obtain⟨a8,aq,I⟩:=Kd.at_int a6.out D Y aa
        cases aq
        replace I:=(HB.out.cell (World.block_lt_of_cell? w _ I)).trans I;replace Y:=eq_true Y;replace aa:=eq_true aa;obtain⟨bb,ap,au⟩:=Kd.R_slice HO_8.out;subst au;have Z:0≤(D:Int):=of_decide_eq_true asE;have ab:D<(G.length:Int):=of_decide_eq_true asE;obtain⟨a9,ar,X⟩:=Kd.at_int (Kd.R_reads' HO_8.out).2.2 D Z ab
        cases ar
        replace Z:=eq_true Z;replace ab:=eq_true ab;have ak:0≤(D:Int):=of_decide_eq_true asE;have al:(D:Int)<((G.length:Int):Int):=of_decide_eq_true asE;obtain⟨U,be,ag,ah,av,bd,af⟩:=Kd.R_form HO_8.out za
        (first|cases ag|(injection ag with ea_ en_ ec_;(first|subst ea_|(injection ea_ with ea_;subst ea_));subst ec_;clear en_))
        have an:=aK ah;have bc:=aK af;clear ah av af
        (first|simp only[add_plain]at X|skip)
        obtain⟨a4,a3⟩:=Kd.R_celln 0 HO_8.out (D:Int) ak al;replace ak:=eq_true ak;replace al:=eq_true al;have O:=Kd.R_putg HO_8.out (D:Int) (Go.bits .xor .u8 (rd G D) (rd l0 D))
        go_wp2_with (first|((with_reducible refine gate_store (t:=5) (p:=32) rfl ?_);refine store_event (t:=5) (p:=32) (v:=?vo_w14) (w1:=(wr.setCell ⟨U,(D:Int).toNat,none⟩ (.int .u8 (Go.bits .xor .u8 (rd G D) (rd l0 D))))) ?hg ?ho ?hn ?hr ?_;(case ho=>rfl);(case hg=>rfl);(case hn=>rfl);(case hr=>first|(go_simp;done)|(go_simp;rfl));intro am hw;have hg:wr.grownBy am (some U):=(by rw[hw];exact O.2);have hp_:Kd.R (Kd.int .u8) 5 am w.heap.size (fun _=>True) (.slice (some ⟨U,0,none⟩) G.length ap) ac:=(by rw[hw,aj.out];exact O.1);clear O;replace HO_8:=aK (hp_);replace HB:=aK ((by rw[hw];exact below_set (HB.out) an.out:Below w.heap.size w am));clear hg hw hp_))
        go_roundg k1
        case measure=>have:=ao.out;omega
        case rel=>exact⟨(ac),(wrap64 (D+1)),rsE,H',⟨by have:=ao.out;omega⟩,⟨kdA HO_8.out⟩,⟨hbA HB.out⟩⟩
       ·rw[if_neg ae]at H
        exact absurd H zd
      ·rw[if_neg c9]at H
       exact absurd H zd
     ·rw[if_neg c8]at H
      exact absurd H zd
    ·rw[if_neg c7]at H
     have c7b0:decide (D<(l0.length:Int))=false:=decide_eq_false c7;clear c7;simp only[Option.some.injEq,Prod.mk.injEq]at H;obtain⟨rfl,rfl⟩:=H;go_wp2
     go_ret2
     exact⟨_,rfE,by(with_reducible repeat(first|apply Kd.R_alloc|apply Kd.R_drewN|apply Kd.R_drew));exact HO_8.out,hbA HB.out⟩
 ·rw[if_neg c4]at H
  have c4b0:((l0.length:Int)==(l2.length:Int))=false:=beq_eq_false_iff_ne.mpr c4;have c4b1:((l0.length:Int)!=(l2.length:Int))=true:=bne_iff_ne.mpr c4;have c4b2:(l0.length==l2.length)=false:=by first|simpa using c4|(simp at c4⊢;omega)
  simp only[Option.some.injEq,Prod.mk.injEq]at H;obtain⟨rfl,rfl⟩:=H
  go_enter Tryd.func97,Tryd.ntmps97
  go_wp2
  go_ret2
  exact⟨_,rfE,nilE,hbA HB.out⟩
def Byt(w:World)(A:Option Addr):Prop:= ∀ad,A=some ad→ ∃cells:Array Value,w.heap[ad.block]? =some (.cells cells 5 (0,0))
def KeepB(w w1:World):Prop:= ∀(b:Nat) (cells:Array Value),w.heap[b]? =some (.cells cells 5 (0,0))→w1.heap[b]? =w.heap[b]?
theorem lt_of_get{w:World}{b:Nat}{o:Obj}(h:w.heap[b]? =some o):b<w.heap.size:=by
 rcases Nat.lt_or_ge b w.heap.size with hb|hb
 ·exact hb
 ·rw[Array.getElem?_eq_none hb]at h
  cases h
theorem KeepB.below{w w1:World}(h:Below w.heap.size w w1):KeepB w w1:=fun b _ hb=>h.block b (lt_of_get hb)
theorem KeepB.grown{w w1:World}{p t:Nat}{cells:Array Value}(h:w.grownBy w1 (some p))(hp:w.heap[p]? =some (.cells cells t (0,0)))(ht:t≠5):KeepB w w1:=fun b c hb=>h.block b (lt_of_get hb) (by
 intro e;injection e with e;subst e;rw[hp]at hb
 injection hb with hb;injection hb with _ hb;exact ht hb)
theorem C_keepB{w w1:World}{A:Option Addr}{n:Nat}{l:List Int}(h:Kd.C (Kd.int .u8) w A n l)(hA:Byt w A)(k:KeepB w w1):Kd.C (Kd.int .u8) w1 A n l:=by
 have h1:=Kd.reads_of_C (enc:=Value.int .u8) (d:=(0:Int)) (h1:=fun _=>rfl) h;refine Kd.C_of_reads (d:=(0:Int)) ⟨h1.1,h1.2.1,fun hn=>?_⟩;obtain⟨ad,ha,hr⟩:=h1.2.2 hn;obtain⟨cells,hb⟩:=hA ad ha;refine⟨ad,ha,fun j hj=>?_⟩;have:=hr j hj;unfold World.cell? at this⊢;have hbl:(ad.add j).block=ad.block:=by unfold Addr.add;split<;>rfl
 rw[hbl]at this⊢
 rw[k _ _ hb];exact this
structure RowV (w:World) (v:Value) (l:List Int):Prop where
 out: ∃A c,v= .slice A l.length c∧l.length≤c∧Kd.C (Kd.int .u8) w A l.length l∧Byt w A
theorem Byt.keep{w w1:World}{A:Option Addr}(h:Byt w A)(k:KeepB w w1):Byt w1 A:=fun ad ha=>(h ad ha).imp fun cells hb=>(k _ _ hb).trans hb
theorem RowV.keep{w w1:World}{v:Value}{l:List Int}(h:RowV w v l)(k:KeepB w w1):RowV w1 v l:=by
 obtain⟨A,c,h1,h2,h3,h4⟩:=h.out;exact⟨A,c,h1,h2,C_keepB h3 h4 k,h4.keep k⟩
theorem RowV.nil(w:World):RowV w (.slice none 0 0) []:=⟨none,0,rfl,Nat.le_refl _,Kd.C_nil _ _,fun ad h=>by cases h⟩
theorem byt_of_R{w:World}{base:Nat}{ok:Nat→Prop}{A:Option Addr}{n c:Nat}{l:List Int}(h:Kd.R (Kd.int .u8) 5 w base ok (.slice A n c) l):Byt w A:=by
 obtain⟨inner,ho⟩:=Kd.R_own h;intro ad ha;rcases ho.2 with⟨h',_⟩|⟨g',cap',cur,h',_,hh,_⟩
 ·injection h' with h';rw[h']at ha
  cases ha
 ·injection h' with h';rw[h']at ha
  cases ha
  exact⟨_,hh⟩
theorem RowV.of_R{w:World}{base:Nat}{ok:Nat→Prop}{v:Value}{l:List Int}(h:Kd.R (Kd.int .u8) 5 w base ok v l):RowV w v l:=by
 obtain⟨A,c,rfl⟩:=Kd.R_slice h;exact⟨A,c,rfl,(Kd.R_reads' h).2.1,(Kd.R_reads' h).2.2,byt_of_R h⟩
structure Lst (w:World) (g:Nat) (M:List (List Int)):Prop where
 typ:0<M.length→ ∃cells:Array Value,w.heap[g]? =some (.cells cells 22 (0,0))
 row: ∀i,i<M.length→ ∃v,w.cell? ⟨g,i,none⟩=some v∧RowV w v (M.getD i [])
 frz: ∀i,i<M.length→w.frozen? ⟨g,i,none⟩=false
structure Chg (w w1:World) (s:Nat→Prop):Prop where
 os:w1.os=w.os
 tape:w1.tape=w.tape
 output:w1.output=w.output
 size:w.heap.size≤w1.heap.size
 block: ∀i,i<w.heap.size→ ¬s i→w1.heap[i]? =w.heap[i]?
theorem Chg.refl(w:World)(s:Nat→Prop):Chg w w s:=⟨rfl,rfl,rfl,Nat.le_refl _,fun _ _ _=>rfl⟩
theorem Chg.trans{u v w:World}{s:Nat→Prop}(h:Chg u v s)(k:Chg v w s):Chg u w s:=
 ⟨k.os.trans h.os,k.tape.trans h.tape,k.output.trans h.output,Nat.le_trans h.size k.size,fun i hi hs=>(k.block i (Nat.lt_of_lt_of_le hi h.size) hs).trans (h.block i hi hs)⟩
theorem Chg.mono{w w1:World}{s t:Nat→Prop}(h:Chg w w1 s)(k: ∀i,i<w.heap.size→s i→t i):Chg w w1 t:=
 ⟨h.os,h.tape,h.output,h.size,fun i hi ht=>h.block i hi fun hs=>ht (k i hi hs)⟩
theorem Chg.grown{w w1:World}{g:Nat}(h:w.grownBy w1 (some g)):Chg w w1 (fun i=>i=g):=
 ⟨h.os,h.tape,h.output,h.size,fun i hi hs=>h.block i hi (fun e=>hs (Option.some.inj e))⟩
theorem Chg.below_all{w w1:World}(h:Below w.heap.size w w1)(s:Nat→Prop):Chg w w1 s:=
 ⟨h.os,h.tape,h.output,h.size,fun i hi _=>h.block i hi⟩
theorem Chg.to_below{w w1:World}{s:Nat→Prop}{n:Nat}(h:Chg w w1 s)(hn:n≤w.heap.size)(k: ∀i,s i→n≤i):Below n w w1:=
 ⟨h.os,h.tape,h.output,h.size,fun i hi=>h.block i za fun hs=>by have:=k i hs;omega⟩
theorem cell_same{w w1:World}{p:Addr}(h:w1.heap[p.block]? =w.heap[p.block]?):w1.cell? p=w.cell? p:=by unfold World.cell?;rw[h]
theorem frozen_same{w w1:World}{p:Addr}(h:w1.heap[p.block]? =w.heap[p.block]?):w1.frozen? p=w.frozen? p:=by unfold World.frozen?;rw[h]
theorem Lst.same{w w1:World}{g:Nat}{M:List (List Int)}(h:Lst w g M)(hg:w1.heap[g]? =w.heap[g]?)(k:KeepB w w1):Lst w1 g M:=
 ⟨fun h0=>(h.typ h0).imp fun _ hc=>hg.trans hc,fun i hi=>(h.row i hi).imp fun v hv=>⟨(cell_same (p:=⟨g,i,none⟩) hg).trans hv.1,hv.2.keep k⟩,fun i hi=>(frozen_same (p:=⟨g,i,none⟩) hg).trans (h.frz i hi)⟩
theorem Lst.lt{w:World}{g:Nat}{M:List (List Int)}(h:Lst w g M)(h0:0<M.length):g<w.heap.size:=(h.typ h0).elim fun _ hc=>lt_of_get hc
theorem Lst.below{w w1:World}{g:Nat}{M:List (List Int)}(h:Lst w g M)(hb:Below w.heap.size w w1):Lst w1 g M:=by
 rcases Nat.eq_zero_or_pos M.length with h0|h0
 ·exact⟨fun h=>by omega,fun i hi=>by omega,fun i hi=>by omega⟩
 ·exact h.same (hb.block g (h.lt h0)) (KeepB.below hb)
theorem Lst.put{w:World}{g:Nat}{M:List (List Int)}(h:Lst w g M){i:Nat}(hi:i<M.length){v:Value}{l:List Int}(hv:RowV w v l):Lst (w.setCell ⟨g,i,none⟩ v) g (M.set i l):=by
 obtain⟨cells,hc⟩:=h.typ za;have kb:KeepB w (w.setCell ⟨g,i,none⟩ v):=fun b c hb=>Below.heap_setCell _ _ _ b (by
  rintro rfl;rw[hc]at hb
  injection hb with hb;injection hb with _ hb;exact absurd hb zc)
 refine⟨fun _=>?_,fun j hj=>?_,fun j hj=>?_⟩
 ·exact⟨_,blk_put hc i v rfl⟩
 ·rw[List.length_set]at hj
  by_cases e:i=j
  ·subst e;obtain⟨v0,h1,_⟩:=h.row i hi;refine⟨v,World.cell?_setCell_same' _ _ _ (by rw[h1];rfl),?_⟩;rw[List.getD_eq_getElem?_getD,List.getElem?_set_self hi];exact hv.keep kb
  ·obtain⟨v0,h1,h2⟩:=h.row j hj;refine⟨v0,(World.cell?_setCell_other _ _ _ _ (by simp[e])).trans h1,?_⟩;rw[List.getD_eq_getElem?_getD,List.getElem?_set_ne e,←List.getD_eq_getElem?_getD];exact h2.keep kb
 ·rw[World.frozen?_setCell];exact h.frz j (by simpa using hj)
theorem grown_trans{u v w:World}{r:Option Nat}(h:u.grownBy v r)(k:v.grownBy w r):u.grownBy w r:=
 ⟨k.os.trans h.os,k.tape.trans h.tape,k.output.trans h.output,Nat.le_trans h.size k.size,fun i hi hr=>(k.block i (Nat.lt_of_lt_of_le hi h.size) hr).trans (h.block i hi hr)⟩
theorem grown_below{u v:World}{r:Option Nat}(h:Below u.heap.size u v):u.grownBy v r:=⟨h.os,h.tape,h.output,h.size,fun k hk _=>h.block k hk⟩
theorem grown_set(w:World)(g j:Nat)(v:Value):w.grownBy (w.setCell ⟨g,j,none⟩ v) (some g):=
 ⟨rfl,rfl,rfl,by simp,fun k _ hk=>Below.heap_setCell _ _ _ k (fun e=>hk (by rw[e]))⟩
theorem grown_drew{w W:World}{r:Option Nat}(h:w.grownBy W r):w.grownBy W.drew r:=⟨h.os,h.tape,h.output,h.size,h.block⟩
theorem below_frozen{W w2:World}(hb:Below W.heap.size W w2){p:Addr}(h:p.block<W.heap.size):w2.frozen? p=W.frozen? p:=frozen_same (hb.block _ h)
theorem Lst.drew{w:World}{g:Nat}{M:List (List Int)}(h:Lst w g M):Lst w.drew g M:=h.below (below_drew (Below.refl _ _))
def swapS(o:Int)(M:List (List Int))(top i:Nat):List (List Int):=((M.set i (M.getD top [])).set top (M.getD i [])).set top ((M.getD i []).map (mulT o))
def xorL(a b:List Int):List Int:=List.zipWith (Go.bits .xor .u8) a b
def macS(M:List (List Int))(k top:Nat)(c:Int):List (List Int):=M.set k (xorL ((M.getD top []).map (mulT c)) (M.getD k []))
def entry(M:List (List Int))(i j:Nat):Int:=(M.getD i []).getD j 0
def rowsB(M:List (List Int)):Bool:=M.all bytesB
theorem rowsB_at{M:List (List Int)}(h:rowsB M=true)(i:Nat):bytesB (M.getD i [])=true:=by
 rw[List.getD_eq_getElem?_getD];rcases Nat.lt_or_ge i M.length with hi|hi
 ·rw[List.getElem?_eq_getElem hi];exact List.all_eq_true.1 h _ (List.getElem_mem hi)
 ·rw[List.getElem?_eq_none hi];rfl
theorem rowsB_set{M:List (List Int)}(h:rowsB M=true){i:Nat}{l:List Int}(hl:bytesB l=true):rowsB (M.set i l)=true:=by
 rw[rowsB,List.all_eq_true];intro x hx;rcases List.mem_or_eq_of_mem_set hx with hx|rfl
 ·exact List.all_eq_true.1 h x hx
 ·exact hl
theorem bytes_scale{o:Int}{l:List Int}(ho:0≤o∧o<256)(hl:bytesB l=true)(hn:l.length≤1000000):field_Scale.f o l=some (l.map (mulT o)):=by
 unfold field_Scale.f;rw[if_pos ⟨ho.1,ho.2,hl,by omega⟩]
theorem lst_swap{w:World}{g top i:Nat}{M:List (List Int)}(h:Lst w g M)(ht:top<M.length)(hi:i<M.length){v1 v2:Value}(h1:w.cell? ⟨g,top,none⟩=some v1)(h2:w.cell? ⟨g,i,none⟩=some v2):
 Lst ((w.setCell ⟨g,i,none⟩ v1).setCell ⟨g,top,none⟩ v2).drew g ((M.set i (M.getD top [])).set top (M.getD i [])):=by
 obtain⟨u1,e1,r1⟩:=h.row top ht;obtain⟨u2,e2,r2⟩:=h.row i hi;rw[h1]at e1
 rw[h2]at e2
 cases e1
 cases e2
 have a:=h.put hi r1;obtain⟨cells,hc⟩:=h.typ za;have kb:KeepB w (w.setCell ⟨g,i,none⟩ v1):=KeepB.grown (grown_set w g i v1) hc zc;exact(a.put (i:=top) zu (r2.keep kb)).drew
set_option maxHeartbeats 2000000 in
set_option maxRecDepth 100000 in
theorem gauss_swap.calls(g n cap bt bi bo:Nat)(top i:Nat)(c:Int)(M:List (List Int))(w:World)(hL:Lst w g M)(hB:rowsB M=true)(ht:w.cell? ⟨bt,0,none⟩=some (.int .i64 top))(hi:w.cell? ⟨bi,0,none⟩=some (.int .i64 i))(ho:w.cell? ⟨bo,0,none⟩=some (.int .u8 c))
 (hbt:bt≠g) (hbi:bi≠g) (hbo:bo≠g) (htn:top<M.length) (hin:i<M.length) (hn:M.length=n) (O:n≤1000000) (hw: ∀j,j<M.length→(M.getD j []).length≤1000000) (hc:0≤c∧c<256):
 Calls Tryd.prog 94 #[.slice (some ⟨g,0,none⟩) n cap,.pointer (some ⟨bt,0,none⟩),.pointer (some ⟨bi,0,none⟩),.pointer (some ⟨bo,0,none⟩)] w fun e w'=>(∃v,e= .returned v)∧Aside0 (Lst w' g (swapS c M top i)∧w.grownBy w' (some g)):=by
 subst hn;have q1:(g=bt)=False:=by simp;exact fun e=>hbt e.symm
 have q2:(bt=g)=False:=by simp;exact hbt
 have q3:(g=bi)=False:=by simp;exact fun e=>hbi e.symm
 have q4:(bi=g)=False:=by simp;exact hbi
 have q5:(g=bo)=False:=by simp;exact fun e=>hbo e.symm
 have q6:(bo=g)=False:=by simp;exact hbo
 obtain⟨v1,h1,r1⟩:=hL.row top htn;obtain⟨v2,h2,r2⟩:=hL.row i hin;have f1:=hL.frz top htn;have f2:=hL.frz i hin;have HS:=aK (⟨lst_swap hL htn hin h1 h2,grown_drew (grown_trans (grown_set w g i v1) (grown_set _ g top v2))⟩:Lst ((w.setCell ⟨g,i,none⟩ v1).setCell ⟨g,top,none⟩ v2).drew g ((M.set i (M.getD top [])).set top (M.getD i []))∧w.grownBy ((w.setCell ⟨g,i,none⟩ v1).setCell ⟨g,top,none⟩ v2).drew (some g));have HSC:=aK (bytes_scale hc (rowsB_at hB i) (hw i hin));have HE:=aK (show swapS c M top i=((M.set i (M.getD top [])).set top (M.getD i [])).set top ((M.getD i []).map (mulT c))from rfl);have HT:=aK ht;have HO:=aK ho;have HL:=aK hL;obtain⟨D,J,rfl,_,_,_⟩:=r1.out;obtain⟨G,L,rfl,_,_,_⟩:=r2.out;clear r1 r2 hB hL hw;generalize(M.getD i []).map (mulT c)=r at*;generalize et:M.getD top [] =lt at*;generalize ei:M.getD i [] =li at*;have ET:=aK et;have EI:=aK ei;clear et ei
 go_enter Tryd.func94,Tryd.ntmps94
 go_wp2
 go_cut [5] (fun _ W1=>Aside0 (Lst W1 g ((M.set i lt).set top li)∧w.grownBy W1 (some g)))
 case first=>
  by_cases hti:i=top
  ·subst hti;obtain rfl:lt=li:=ET.out.symm.trans EI.out;obtain⟨e1,e3⟩:D=G∧J=L:=by
    have:=Option.some.inj (h1.symm.trans h2);injection this with a b c;exact⟨a,c⟩
   subst e1 e3
   go_region
   go_wp2_with fail
   go_meet
   exact⟨HS.out⟩
  ·have hgi:(i=top)=False:=by simp;exact hti
   have hgt:(top=i)=False:=by simp;exact fun e=>hti e.symm
   go_region
   go_wp2_with fail
   go_meet
   exact⟨HS.out⟩
 case rest=>
  obtain⟨hs,hgr⟩:=hcut.out;have hlt:=HL.out.lt za;have a1:wc.cell? ⟨bt,0,none⟩=some (.int .i64 top):=(cell_same (hgr.block bt (World.block_lt_of_cell? _ _ HT.out) (by simpa using hbt))).trans HT.out;have a3:wc.cell? ⟨bo,0,none⟩=some (.int .u8 c):=(cell_same (hgr.block bo (World.block_lt_of_cell? _ _ HO.out) (by simpa using hbo))).trans HO.out;have hts:top<((M.set i lt).set top li).length:=by simpa using htn
  obtain⟨v,a4,hv⟩:=hs.row top hts;have a5:=hs.frz top hts;have hgt:(((M.set i lt).set top li).getD top [])=li:=by
   rw[List.getD_eq_getElem?_getD,List.getElem?_set_self (by simpa using htn)];rfl
  rw[hgt]at hv
  obtain⟨Ai,ci,rfl,hci,hCi,_⟩:=hv.out;have HCI:=aK hCi;have HLS:=aK hs;have HGR:=aK hgr;have hgl:=World.block_lt_of_cell? _ _ a4;clear hs hgr hv hCi h1 h2 f1 f2 ho ht hi hgt hts
  go_wp2_with fail
  refine start_ (n:=10) (S:=fun w'=>w'.cell? ⟨bt,0,none⟩=some (.int .i64 top)∧w'.cell? ⟨bo,0,none⟩=some (.int .u8 c)∧w'.cell? ⟨g,top,none⟩=some (.slice Ai li.length ci)) (ds:= [9]) (mB 10 0) zb rfl rfl ⟨a1,a3,a4⟩ (fun hHeld=>?_);refine zpu 0 (some 19) (mB 10 1) ?_;refine zpu 3 (some 22) (mB 10 9) ?_;refine ztk3 1 (some 20) (mB 10 11) hHeld ?_;refine ztk3 2 (some 21) (mB 10 15) hHeld ?_;refine ztk3 4 (some 23) (mB 10 31) hHeld ?_;refine zpu 5 (some 24) (mB 10 63) ?_;refine ztk3 6 (some 25) (mB 10 127) hHeld ?_;refine zon 7 (some 26) (mB 10 255) fun K hK=>?_;refine goes_ Tryd.func95 zb rfl #[.int .u8 c,.slice Ai li.length ci] ze rfl rfl zg ?_;refine(field_Scale.calls c Ai ci li _ wc.drew HCI.out hci HSC.out).mono ?_;rintro e w2 ⟨v0,rfl,ho,hb⟩;refine⟨_,rfl,?_⟩;obtain⟨A0,c0,eo⟩:=Kd.R_slice ho;subst eo;have b2:=pw_cell_below hb (show wc.drew.cell? _=_ from a4);have b3:w2.frozen? ⟨g,top,none⟩=false:=((below_frozen (W:=wc.drew) hb hgl).trans a5)
  have I:=aK ho;clear ho;refine hK.out _ _ ⟨pw_cell_below hb a1,pw_cell_below hb a3,b2⟩ (fun hHeld=>?_);clear hK K;refine znm (some 26) ?_;refine zpu 8 (some 27) (mB 10 511) ?_;refine zln 9 (none) (mB 10 1023) fun K hK=>?_;refine zsk ?_;refine hK.out _ _ ?_;clear hK K;refine done_ zb ?_
  go_end0
  have L2:=(HLS.out.drew).below hb;rw[HE.out];exact⟨⟨_,rfl⟩,⟨L2.put (i:=top) (by simpa using htn) (RowV.of_R I.out),grown_trans (grown_trans HGR.out (grown_below ((below_drew (Below.refl wc.heap.size wc)).trans hb))) (grown_set _ g top _)⟩⟩
theorem mac_l0: ∀(d i:Nat) (out l:List Int) (k:Nat),l.length=i+d→out.length=l.length→l.length≤1000000→d<k→field_Mac.l0 k out l (l.length:Int) (i:Int)=some (out.take i++xorL (out.drop i) (l.drop i),0)
 |0,i,out,l,k,h1,h2,h3,hk=>by
  obtain⟨k,rfl⟩: ∃m,k=m+1:=⟨k-1,by omega⟩
  unfold field_Mac.l0;rw[if_neg za];rw[List.drop_eq_nil_of_le (by omega:l.length≤i),List.take_of_length_le za];simp[xorL]
 |d+1,i,out,l,k,h1,h2,h3,hk=>by
  obtain⟨k,rfl⟩: ∃m,k=m+1:=⟨k-1,by omega⟩
  unfold field_Mac.l0;rw[if_pos za,if_pos za,if_pos za,if_pos za,show wrap64 ((i:Int)+1)=((i+1:Nat):Int)from by unfold wrap64;omega,Int.toNat_natCast];rw[mac_l0 d (i+1) _ l k za (by simpa using h2) h3 za];have ho:i<out.length:=by omega
  have hl:i<l.length:=by omega
  have e1:rd out (i:Int)=out[i]:=by simp[rd,List.getD_eq_getElem?_getD,List.getElem?_eq_getElem ho]
  have e2:rd l (i:Int)=l[i]:=by simp[rd,List.getD_eq_getElem?_getD,List.getElem?_eq_getElem hl]
  rw[e1,e2]
  congr 1
  congr 1
  rw[List.take_set,List.drop_set_of_lt za,List.take_succ_eq_append_getElem ho,List.set_append_right _ _ zl];have:i-(out.take i).length=0:=by simp;omega
  rw[this,List.set_cons_zero,List.append_assoc];have e3:out.drop i=out[i]::out.drop (i+1):=List.drop_eq_getElem_cons ho;have e4:l.drop i=l[i]::l.drop (i+1):=List.drop_eq_getElem_cons hl;rw[e3,e4];rfl
theorem mac_f{o:Int}{lk lt:List Int}(ho:0≤o∧o<256)(hl:bytesB lt=true)(he:lk.length=lt.length)(hn:lt.length≤1000000):field_Mac.f (lk.length+1) lk o lt=some (xorL (lt.map (mulT o)) lk,0):=by
 unfold field_Mac.f;rw[if_pos (by rw[he]),bytes_scale ho hl hn,Option.bind_some];have:=mac_l0 lk.length 0 (lt.map (mulT o)) lk (lk.length+1) za (by simp[he]) za za;simpa using this
set_option maxHeartbeats 2000000 in
set_option maxRecDepth 100000 in
theorem gauss_mac.calls(g n cap bk bc bt:Nat)(k top:Nat)(c:Int)(M:List (List Int))(w:World)(hL:Lst w g M)(hB:rowsB M=true)(hk:w.cell? ⟨bk,0,none⟩=some (.int .i64 k))(hc:w.cell? ⟨bc,0,none⟩=some (.int .u8 c))(ht:w.cell? ⟨bt,0,none⟩=some (.int .i64 top))
 (hkn:k<M.length) (htn:top<M.length) (hn:M.length=n) (O:n≤1000000) (hw: ∀j,j<M.length→(M.getD j []).length≤1000000) (he:(M.getD k []).length=(M.getD top []).length) (hcr:0≤c∧c<256):
 Calls Tryd.prog 96 #[.slice (some ⟨g,0,none⟩) n cap,.pointer (some ⟨bk,0,none⟩),.pointer (some ⟨bc,0,none⟩),.pointer (some ⟨bt,0,none⟩)] w fun e w'=>(∃v,e= .returned v)∧Aside0 (Lst w' g (macS M k top c)∧w.grownBy w' (some g)):=by
 subst hn;obtain⟨v1,h1,r1⟩:=hL.row k hkn;obtain⟨v2,h2,r2⟩:=hL.row top htn;have f1:=hL.frz k hkn;obtain⟨Ak,ck,rfl,hck,D,_⟩:=r1.out;obtain⟨At,ct,rfl,hct,G,_⟩:=r2.out;have I:=aK D;have J:=aK G;have HM:=aK (mac_f hcr (rowsB_at hB top) he (hw top htn));have HL:=aK hL;have HE:=aK (show macS M k top c=M.set k (xorL ((M.getD top []).map (mulT c)) (M.getD k []))from rfl);have hgl:=World.block_lt_of_cell? _ _ h1;clear D G r1 r2 hL hB hw he;generalize xorL ((M.getD top []).map (mulT c)) (M.getD k [])=r at*;generalize M.getD k [] =lk at*;generalize M.getD top [] =lt at*
 go_enter Tryd.func96,Tryd.ntmps96
 go_wp2;refine start_ (n:=17) (S:=fun w'=>w'.cell? ⟨bk,0,none⟩=some (.int .i64 k)∧w'.cell? ⟨bc,0,none⟩=some (.int .u8 c)∧w'.cell? ⟨bt,0,none⟩=some (.int .i64 top)∧w'.cell? ⟨g,k,none⟩=some (.slice Ak lk.length ck)∧w'.cell? ⟨g,top,none⟩=some (.slice At lt.length ct)) (ds:= [16]) (mB 17 0) zb rfl rfl ⟨hk,hc,ht,h1,h2⟩ (fun hHeld=>?_);refine zpu 0 (some 6) (mB 17 1) ?_;refine zpu 2 (some 8) (mB 17 5) ?_;refine zpu 7 (some 13) (mB 17 133) ?_;refine ztk5 1 (some 7) (mB 17 135) hHeld ?_;refine ztk5 3 (some 9) (mB 17 143) hHeld ?_;refine zpu 4 (some 10) (mB 17 159) ?_;refine ztk5 5 (some 11) (mB 17 191) hHeld ?_;refine ztk5 6 (some 12) (mB 17 255) hHeld ?_;refine ztk5 8 (some 14) (mB 17 511) hHeld ?_;refine zpu 9 (some 15) (mB 17 1023) ?_;refine ztk5 10 (some 16) (mB 17 2047) hHeld ?_;refine zon 11 (some 17) (mB 17 4095) fun K hK=>?_;refine goes_ Tryd.func97 zb rfl #[.slice Ak lk.length ck,.int .u8 c,.slice At lt.length ct] ze rfl rfl zg ?_;refine(field_Mac.calls _ Ak ck lk c At ct lt _ 0 w.drew I.out hck J.out hct HM.out).mono ?_;rintro e w2 ⟨v0,rfl,ho,hb⟩;refine⟨_,rfl,?_⟩;obtain⟨A0,c0,eo⟩:=Kd.R_slice ho;subst eo;have b2:=pw_cell_below hb (show w.drew.cell? _=_ from h1);have b3:w2.frozen? ⟨g,k,none⟩=false:=((below_frozen (W:=w.drew) hb hgl).trans f1)
 have L:=aK ho;clear ho;refine hK.out _ _ ⟨pw_cell_below hb hk,pw_cell_below hb hc,pw_cell_below hb ht,b2,pw_cell_below hb h2⟩ (fun hHeld=>?_);clear hK K;refine znm (some 17) ?_;refine zpu 12 (some 5) (mB 17 8191) ?_;refine zpu 13 (some 18) (mB 17 16383) ?_;refine zpu 14 (some 19) (mB 17 32767) ?_;refine zpu 15 (some 20) (mB 17 65535) ?_;refine zln 16 (none) (mB 17 131071) fun K hK=>?_;refine zsk ?_;refine hK.out _ _ ?_;clear hK K;refine done_ zb ?_
 go_end0
 have L2:=(HL.out.drew).below hb;rw[HE.out];exact⟨⟨_,rfl⟩,⟨L2.put (i:=k) hkn (RowV.of_R L.out),grown_trans (grown_below ((below_drew (Below.refl w.heap.size w)).trans hb)) (grown_set _ g k _)⟩⟩
structure Hold (w:World) (R g d cl cd:Nat) (Al Ad:Option Addr) (M D:List (List Int)) (cols:Nat):Prop where
 head:w.cell? ⟨R,0,none⟩=some (.slice Al M.length cl)
 also:w.cell? ⟨R,1,none⟩=some (.slice Ad D.length cd)
 wide:w.cell? ⟨R,2,none⟩=some (.int .i64 cols)
 hA:0<M.length→Al=some ⟨g,0,none⟩
 hD:0<D.length→Ad=some ⟨d,0,none⟩
 L:Lst w g M
 LD:Lst w d D
 ne1:g≠d
 ne2:R≠g
 ne3:R≠d
structure Shp (M D:List (List Int)) (cols wd:Nat):Prop where
 len:D.length=M.length
 bM:rowsB M=true
 bD:rowsB D=true
 eM: ∀i,i<M.length→(M.getD i []).length=cols
 eD: ∀i,i<M.length→(D.getD i []).length=wd
 small:M.length≤64∧cols≤64∧wd≤64
theorem getD_set{M:List (List Int)}{i j:Nat}{l:List Int} :(M.set i l).getD j [] =if i=j∧i<M.length then l else M.getD j []:=by
 rw[List.getD_eq_getElem?_getD,List.getD_eq_getElem?_getD,List.getElem?_set];by_cases e:i=j
 ·subst e;by_cases h:i<M.length
  ·simp[h]
  ·simp[h,List.getElem?_eq_none (by omega:M.length≤i)]
 ·simp[e]
theorem xor_u8(a b:Int):0≤Go.bits .xor .u8 a b∧Go.bits .xor .u8 a b<256:=by
 unfold Go.bits;rw[IntKind.wrap_u8];omega
theorem bytesB_mk{l:List Int}(h: ∀x,x∈l→0≤x∧x<256):bytesB l=true:=by
 unfold bytesB;rw[List.all_eq_true];intro x hx;simpa using h x hx
theorem exp_bytes:bytesB (field_build.st 255).1=true:=by decide+kernel
theorem mulT_range(a b:Int):0≤mulT a b∧mulT a b<256:=by
 unfold mulT
 split
 ·omega
 ·split
  ·omega
  ·unfold field_build.exp;rw[List.getD_eq_getElem?_getD];generalize(field_build.log a.toNat+field_build.log b.toNat).toNat=i;rcases Nat.lt_or_ge i (field_build.st 255).1.length with hi|hi
   ·rw[List.getElem?_eq_getElem hi];have:=List.all_eq_true.1 exp_bytes _ (List.getElem_mem hi);simpa using this
   ·rw[List.getElem?_eq_none hi];simp
theorem bytesB_scale(o:Int)(l:List Int):bytesB (l.map (mulT o))=true:=bytesB_mk fun x hx=>by
 obtain⟨y,_,rfl⟩:=List.mem_map.1 hx;exact mulT_range _ _
theorem bytesB_xor(a b:List Int):bytesB (xorL a b)=true:=bytesB_mk fun x hx=>by
 unfold xorL at hx;obtain⟨i,hi,rfl⟩:=List.mem_iff_getElem.1 hx;rw[List.getElem_zipWith];exact xor_u8 _ _
theorem length_xor{a b:List Int}(h:a.length=b.length):(xorL a b).length=b.length:=by
 unfold xorL;rw[List.length_zipWith];omega
theorem shp_swap1{M:List (List Int)}{top i n:Nat}{o:Int}(hB:rowsB M=true)(e: ∀i,i<M.length→(M.getD i []).length=n)(ht:top<M.length)(hi:i<M.length):
 (swapS o M top i).length=M.length∧rowsB (swapS o M top i)=true∧ ∀j,j<M.length→((swapS o M top i).getD j []).length=n:=by
 refine⟨by simp[swapS],?_,fun j hj=>?_⟩
 ·exact rowsB_set (rowsB_set (rowsB_set hB (rowsB_at hB top)) (rowsB_at hB i)) (bytesB_scale _ _)
 ·unfold swapS;rw[getD_set]
  split
  ·rw[List.length_map,e i hi]
  ·rw[getD_set]
   split
   ·exact e i hi
   ·rw[getD_set]
    split
    ·exact e top ht
    ·exact e j hj
theorem Shp.swap{M D:List (List Int)}{cols wd top i:Nat}{o:Int}(h:Shp M D cols wd)(ht:top<M.length)(hi:i<M.length):Shp (swapS o M top i) (swapS o D top i) cols wd:=by
 obtain⟨a1,a2,a3⟩:=shp_swap1 (o:=o) h.bM h.eM ht hi;obtain⟨b1,b2,b3⟩:=shp_swap1 (o:=o) h.bD (fun j hj=>h.eD j (by rw[←h.len];exact hj)) (by rw[h.len];exact ht) (by rw[h.len];exact hi);exact⟨by rw[a1,b1,h.len],a2,b2,fun j hj=>a3 j (by rwa [a1]at hj),fun j hj=>b3 j (by rw[h.len];rwa [a1]at hj),by rw[a1];exact h.small⟩
theorem shp_mac1{M:List (List Int)}{k top n:Nat}{c:Int}(hB:rowsB M=true)(e: ∀i,i<M.length→(M.getD i []).length=n)(hk:k<M.length)(ht:top<M.length):
 (macS M k top c).length=M.length∧rowsB (macS M k top c)=true∧ ∀j,j<M.length→((macS M k top c).getD j []).length=n:=by
 refine⟨by simp[macS],rowsB_set hB (bytesB_xor _ _),fun j hj=>?_⟩;unfold macS;rw[getD_set]
 split
 ·rw[length_xor (by rw[List.length_map,e top ht,e k hk]),e k hk]
 ·exact e j hj
theorem Shp.mac{M D:List (List Int)}{cols wd k top:Nat}{c:Int}(h:Shp M D cols wd)(hk:k<M.length)(ht:top<M.length):Shp (macS M k top c) (macS D k top c) cols wd:=by
 obtain⟨a1,a2,a3⟩:=shp_mac1 (c:=c) h.bM h.eM hk ht;obtain⟨b1,b2,b3⟩:=shp_mac1 (c:=c) h.bD (fun j hj=>h.eD j (by rw[←h.len];exact hj)) (by rw[h.len];exact hk) (by rw[h.len];exact ht);exact⟨by rw[a1,b1,h.len],a2,b2,fun j hj=>a3 j (by rwa [a1]at hj),fun j hj=>b3 j (by rw[h.len];rwa [a1]at hj),by rw[a1];exact h.small⟩
theorem Hold.small{w:World}{R g d cl cd:Nat}{Al Ad:Option Addr}{M D:List (List Int)}{cols:Nat}(h:Hold w R g d cl cd Al Ad M D cols):R<w.heap.size:=World.block_lt_of_cell? _ _ h.head
theorem Hold.below{w w1:World}{R g d cl cd:Nat}{Al Ad:Option Addr}{M D:List (List Int)}{cols:Nat}(h:Hold w R g d cl cd Al Ad M D cols)(hb:Below w.heap.size w w1):Hold w1 R g d cl cd Al Ad M D cols:=
 ⟨(hb.cell (p:=⟨R,0,none⟩) h.small).trans h.head,(hb.cell (p:=⟨R,1,none⟩) h.small).trans h.also,(hb.cell (p:=⟨R,2,none⟩) h.small).trans h.wide,h.hA,h.hD,h.L.below hb,h.LD.below hb,h.ne1,h.ne2,h.ne3⟩
theorem Hold.chg{w w1:World}{R g d cl cd:Nat}{Al Ad:Option Addr}{M D:List (List Int)}{cols:Nat}{s:Nat→Prop}(h:Hold w R g d cl cd Al Ad M D cols)(hc:Chg w w1 s)(k:KeepB w w1)(h1: ¬s R)(h2:0<M.length→ ¬s g)(h3:0<D.length→ ¬s d):Hold w1 R g d cl cd Al Ad M D cols:=by
 have hR:=hc.block R h.small h1;refine⟨(cell_same (p:=⟨R,0,none⟩) hR).trans h.head,(cell_same (p:=⟨R,1,none⟩) hR).trans h.also,(cell_same (p:=⟨R,2,none⟩) hR).trans h.wide,h.hA,h.hD,?_,?_,h.ne1,h.ne2,h.ne3⟩
 ·rcases Nat.eq_zero_or_pos M.length with h0|h0
  ·exact⟨fun h=>by omega,fun i hi=>by omega,fun i hi=>by omega⟩
  ·exact h.L.same (hc.block g (h.L.lt h0) (h2 h0)) k
 ·rcases Nat.eq_zero_or_pos D.length with h0|h0
  ·exact⟨fun h=>by omega,fun i hi=>by omega,fun i hi=>by omega⟩
  ·exact h.LD.same (hc.block d (h.LD.lt h0) (h3 h0)) k
theorem Hold.left{w w1:World}{R g d cl cd:Nat}{Al Ad:Option Addr}{M D M':List (List Int)}{cols:Nat}(h:Hold w R g d cl cd Al Ad M D cols)(hg:w.grownBy w1 (some g))(hL:Lst w1 g M')(hl:M'.length=M.length)(h0:0<M.length):Hold w1 R g d cl cd Al Ad M' D cols:=by
 obtain⟨cells,hc⟩:=h.L.typ h0;have hR:=hg.block R h.small (by simpa using h.ne2);refine⟨by rw[hl];exact(cell_same (p:=⟨R,0,none⟩) hR).trans h.head,(cell_same (p:=⟨R,1,none⟩) hR).trans h.also,(cell_same (p:=⟨R,2,none⟩) hR).trans h.wide,by rw[hl];exact h.hA,h.hD,hL,?_,h.ne1,h.ne2,h.ne3⟩;rcases Nat.eq_zero_or_pos D.length with h1|h1
 ·exact⟨fun h=>by omega,fun i hi=>by omega,fun i hi=>by omega⟩
 ·exact h.LD.same (hg.block d (h.LD.lt h1) (by simpa using fun e=>h.ne1 e.symm)) (KeepB.grown hg hc zc)
theorem Hold.right{w w1:World}{R g d cl cd:Nat}{Al Ad:Option Addr}{M D D':List (List Int)}{cols:Nat}(h:Hold w R g d cl cd Al Ad M D cols)(hg:w.grownBy w1 (some d))(hL:Lst w1 d D')(hl:D'.length=D.length)(h0:0<D.length):Hold w1 R g d cl cd Al Ad M D' cols:=by
 obtain⟨cells,hc⟩:=h.LD.typ h0;have hR:=hg.block R h.small (by simpa using h.ne3);refine⟨(cell_same (p:=⟨R,0,none⟩) hR).trans h.head,by rw[hl];exact(cell_same (p:=⟨R,1,none⟩) hR).trans h.also,(cell_same (p:=⟨R,2,none⟩) hR).trans h.wide,h.hA,by rw[hl];exact h.hD,?_,hL,h.ne1,h.ne2,h.ne3⟩;rcases Nat.eq_zero_or_pos M.length with h1|h1
 ·exact⟨fun h=>by omega,fun i hi=>by omega,fun i hi=>by omega⟩
 ·exact h.L.same (hg.block g (h.L.lt h1) (by simpa using h.ne1)) (KeepB.grown hg hc zc)
def two(g d:Nat):Nat→Prop:=fun i=>i=g∨i=d
set_option maxHeartbeats 2000000 in
set_option maxRecDepth 100000 in
theorem gauss_both.swap(b0 R g d cl cd bt bi bo:Nat)(Al Ad:Option Addr)(M D:List (List Int))(cols wd top i:Nat)(o:Int)(w:World)(H:Hold w R g d cl cd Al Ad M D cols)(S:Shp M D cols wd)(hb:w.cell? ⟨b0,0,none⟩=some (.pointer (some ⟨R,0,none⟩)))
 (ht:w.cell? ⟨bt,0,none⟩=some (.int .i64 top)) (hi:w.cell? ⟨bi,0,none⟩=some (.int .i64 i)) (ho:w.cell? ⟨bo,0,none⟩=some (.int .u8 o)) (hor:0≤o∧o<256) (htn:top<M.length) (hin:i<M.length)
 (n0:b0≠g∧bt≠g∧bi≠g∧bo≠g) (n1:bt≠d∧bi≠d∧bo≠d):
 Calls Tryd.prog 91 #[.func (.func 94) #[] #[.pointer (some ⟨bt,0,none⟩),.pointer (some ⟨bi,0,none⟩),.pointer (some ⟨bo,0,none⟩)],.pointer (some ⟨b0,0,none⟩)] w
  fun e w'=>(∃v,e= .returned v)∧Aside0 (Hold w' R g d cl cd Al Ad (swapS o M top i) (swapS o D top i) cols∧Chg w w' (two g d)):=by
 obtain⟨aa,O,U,X⟩:=n0;obtain⟨n11,n12,n13⟩:=n1;have hl:=H.head;have e1:=H.hA za;have hdl:=S.len;have e2:=H.hD za;subst e1 e2;obtain⟨a1,_,_⟩:=shp_swap1 (o:=o) S.bM S.eM htn hin;have c1:=gauss_swap.calls g M.length cl bt bi bo top i o M w H.L S.bM ht hi ho O U X htn hin rfl zab (fun j hj=>by rw[S.eM j hj];have:=S.small;omega) hor
 have c2: ∀w1,Lst w1 g (swapS o M top i)∧w.grownBy w1 (some g)→w1.cell? ⟨b0,0,none⟩=some (.pointer (some ⟨R,0,none⟩))∧w1.cell? ⟨R,1,none⟩=some (.slice (some ⟨d,0,none⟩) D.length cd)∧
  Calls Tryd.prog 94 #[.slice (some ⟨d,0,none⟩) D.length cd,.pointer (some ⟨bt,0,none⟩),.pointer (some ⟨bi,0,none⟩),.pointer (some ⟨bo,0,none⟩)] w1 fun e w2=>(∃v,e= .returned v)∧Aside0 (Lst w2 d (swapS o D top i)∧w1.grownBy w2 (some d)):=by
  intro w1 ⟨I,G⟩;have H1:=H.left G I a1 za;have cc: ∀b v,b≠g→w.cell? ⟨b,0,none⟩=some v→w1.cell? ⟨b,0,none⟩=some v:=fun b v hne hv=>(cell_same (p:=⟨b,0,none⟩) (G.block b (World.block_lt_of_cell? _ _ hv) (by simpa using hne))).trans hv;exact⟨cc _ _ aa hb,H1.also,gauss_swap.calls d D.length cd bt bi bo top i o D w1 H1.LD S.bD (cc _ _ O ht) (cc _ _ U hi) (cc _ _ X ho) n11 n12 n13 za za rfl zab (fun j hj=>by rw[S.eD j za];have:=S.small;omega) hor⟩
 have HH:=aK H;have A1:=aK a1;have SS:=aK S;have C2:=aK c2;clear H S a1 c2 hdl ht hi ho hor
 go_enter Tryd.func91,Tryd.ntmps91
 go_wp2_with (first|(go_at_call 94;refine c1.mono ?_;clear c1;rintro e w1 ⟨⟨v,rfl⟩,hq⟩;obtain⟨ab,ac,h3⟩:=C2.out w1 hq.out)|(go_at_call 94;refine h3.mono ?_;clear h3;rintro e w2 ⟨⟨v2,rfl⟩,Z⟩))
 go_end0
 refine⟨⟨_,rfl⟩,⟨?_⟩⟩;obtain⟨I,G⟩:=hq.out;obtain⟨Y,J⟩:=Z.out;have H1:=HH.out.left G I A1.out za;have hdl:=SS.out.len;exact⟨H1.right J Y (by simp[swapS]) za,((Chg.grown G).mono fun i _ h=> .inl h).trans ((Chg.grown J).mono fun i _ h=> .inr h)⟩
set_option maxHeartbeats 2000000 in
set_option maxRecDepth 100000 in
theorem gauss_both.mac(b0 R g d cl cd bk bc bt:Nat)(Al Ad:Option Addr)(M D:List (List Int))(cols wd k top:Nat)(c:Int)(w:World)(H:Hold w R g d cl cd Al Ad M D cols)(S:Shp M D cols wd)(hb:w.cell? ⟨b0,0,none⟩=some (.pointer (some ⟨R,0,none⟩)))
 (hk:w.cell? ⟨bk,0,none⟩=some (.int .i64 k)) (hc:w.cell? ⟨bc,0,none⟩=some (.int .u8 c)) (ht:w.cell? ⟨bt,0,none⟩=some (.int .i64 top)) (hcr:0≤c∧c<256) (hkn:k<M.length) (htn:top<M.length)
 (n0:b0≠g∧bk≠g∧bc≠g∧bt≠g):
 Calls Tryd.prog 91 #[.func (.func 96) #[] #[.pointer (some ⟨bk,0,none⟩),.pointer (some ⟨bc,0,none⟩),.pointer (some ⟨bt,0,none⟩)],.pointer (some ⟨b0,0,none⟩)] w
  fun e w'=>(∃v,e= .returned v)∧Aside0 (Hold w' R g d cl cd Al Ad (macS M k top c) (macS D k top c) cols∧Chg w w' (two g d)):=by
 obtain⟨X,Y,Z,aa⟩:=n0;have hl:=H.head;have e1:=H.hA za;have hdl:=S.len;have e2:=H.hD za;subst e1 e2;have a1:(macS M k top c).length=M.length:=by simp[macS]
 have c1:=gauss_mac.calls g M.length cl bk bc bt k top c M w H.L S.bM hk hc ht hkn htn rfl zab (fun j hj=>by rw[S.eM j hj];have:=S.small;omega) (by rw[S.eM k hkn,S.eM top htn]) hcr
 have c2: ∀w1,Lst w1 g (macS M k top c)∧w.grownBy w1 (some g)→w1.cell? ⟨b0,0,none⟩=some (.pointer (some ⟨R,0,none⟩))∧w1.cell? ⟨R,1,none⟩=some (.slice (some ⟨d,0,none⟩) D.length cd)∧
  Calls Tryd.prog 96 #[.slice (some ⟨d,0,none⟩) D.length cd,.pointer (some ⟨bk,0,none⟩),.pointer (some ⟨bc,0,none⟩),.pointer (some ⟨bt,0,none⟩)] w1 fun e w2=>(∃v,e= .returned v)∧Aside0 (Lst w2 d (macS D k top c)∧w1.grownBy w2 (some d)):=by
  intro w1 ⟨I,G⟩;have H1:=H.left G I a1 za;have cc: ∀b v,b≠g→w.cell? ⟨b,0,none⟩=some v→w1.cell? ⟨b,0,none⟩=some v:=fun b v hne hv=>(cell_same (p:=⟨b,0,none⟩) (G.block b (World.block_lt_of_cell? _ _ hv) (by simpa using hne))).trans hv;exact⟨cc _ _ X hb,H1.also,gauss_mac.calls d D.length cd bk bc bt k top c D w1 H1.LD S.bD (cc _ _ Y hk) (cc _ _ Z hc) (cc _ _ aa ht) za za rfl zab (fun j hj=>by rw[S.eD j za];have:=S.small;omega) (by rw[S.eD k hkn,S.eD top htn]) hcr⟩
 have HH:=aK H;have A1:=aK a1;have SS:=aK S;have C2:=aK c2;clear H S a1 c2 hdl hk hc ht hcr
 go_enter Tryd.func91,Tryd.ntmps91
 go_wp2_with (first|(go_at_call 96;refine c1.mono ?_;clear c1;rintro e w1 ⟨⟨v,rfl⟩,hq⟩;obtain⟨ab,ac,h3⟩:=C2.out w1 hq.out)|(go_at_call 96;refine h3.mono ?_;clear h3;rintro e w2 ⟨⟨v2,rfl⟩,U⟩))
 go_end0
 refine⟨⟨_,rfl⟩,⟨?_⟩⟩;obtain⟨I,G⟩:=hq.out;obtain⟨O,J⟩:=U.out;have H1:=HH.out.left G I A1.out za;have hdl:=SS.out.len;exact⟨H1.right J O (by simp[macS]) za,((Chg.grown G).mono fun i _ h=> .inl h).trans ((Chg.grown J).mono fun i _ h=> .inr h)⟩
def seekCol(M:List (List Int))(j:Nat):Nat→Nat→Option Nat
 |0,_=>none
 |f+1,i=>if entry M i j≠0 then some i else seekCol M j f (i+1)
def firstIn(M:List (List Int))(top j:Nat):Option Nat:=seekCol M j (M.length-top) top
def ZeroTo(M:List (List Int))(top col j:Nat):Prop:= ∀j',col≤j'→j'<j→ ∀i',top≤i'→i'<M.length→entry M i' j'=0
def ZeroIn(M:List (List Int))(top j i:Nat):Prop:= ∀i',top≤i'→i'<i→entry M i' j=0
theorem seekCol_none{M:List (List Int)}{j:Nat} : ∀f i,(∀i',i≤i'→i'<i+f→entry M i' j=0)→seekCol M j f i=none
 |0,_,_=>rfl
 |f+1,i,h=>by
  unfold seekCol;rw[if_neg (by simpa using h i (Nat.le_refl _) za)];exact seekCol_none f (i+1) fun i' a b=>h i' za za
theorem seekCol_some{M:List (List Int)}{j r:Nat} : ∀f i,i≤r→r<i+f→entry M r j≠0→(∀i',i≤i'→i'<r→entry M i' j=0)→seekCol M j f i=some r
 |0,i,h1,h2,_,_=>by omega
 |f+1,i,h1,h2,h3,h4=>by
  unfold seekCol;by_cases e:i=r
  ·subst e;rw[if_pos h3]
  ·rw[if_neg (by simpa using h4 i (Nat.le_refl _) za)];exact seekCol_some f (i+1) za za h3 fun i' a b=>h4 i' za b
theorem seekCol_spec{M:List (List Int)}{j r:Nat} : ∀f i,seekCol M j f i=some r→i≤r∧r<i+f∧entry M r j≠0∧ ∀i',i≤i'→i'<r→entry M i' j=0
 |0,i,h=>by cases h
 |f+1,i,h=>by
  unfold seekCol at h;by_cases e:entry M i j≠0
  ·rw[if_pos e]at h
   cases h
   exact⟨Nat.le_refl _,by omega,e,fun i' a b=>by omega⟩
  ·rw[if_neg e]at h
   obtain⟨h1,h2,h3,h4⟩:=seekCol_spec f (i+1) h;refine⟨by omega,by omega,h3,fun i' a b=>?_⟩;by_cases e2:i'=i
   ·rw[e2];simpa using e
   ·exact h4 i' za b
set_option maxHeartbeats 2000000 in
set_option maxRecDepth 100000 in
theorem gauss_seek.calls(R g d cl cd:Nat)(Al Ad:Option Addr)(M D:List (List Int))(cols wd top col:Nat)(w:World)(h:Hold w R g d cl cd Al Ad M D cols)(hS:Shp M D cols wd)(htop:top≤1048576)(hcol:col≤1048577)(h0:0<M.length):
 Calls Tryd.prog 92 #[.pointer (some ⟨R,0,none⟩),.int .i64 top,.int .i64 col] w fun e w'=> ∃(i j:Nat) (b:Bool),e= .returned (.tuple #[.int .i64 i,.int .i64 j,.bool b])∧w'=w∧
  (if b then j<cols∧col≤j∧top≤i∧i<M.length∧entry M i j≠0∧ZeroIn M top j i∧ZeroTo M top col j else ZeroTo M top col cols):=by
 have hA:=h.hA h0;subst hA;have J:=h.head;have h2:=h.wide;have hM:=hS.small.1;have hc:=hS.small.2.1;have H:=aK h.L;have HS:=aK hS;clear h hS h0
 go_enter Tryd.func92,Tryd.ntmps92
 go_wp2;refine wp_scope_straight ?_;go_wp2
 go_step3
 go_wp2
 go_loop [6,7,8] (fun vi vj vb=> ∃i j:Nat,vi= .int .i64 i∧vj= .int .i64 j∧vb= .bool false∧col≤j∧j≤1048577∧i≤1048577∧Aside0 (ZeroTo M top col j)) (fun _ v _=>cols-(intOf v).toNat)
 case atStart=>exact⟨0,col,rfl,rfl,rfl,Nat.le_refl _,hcol,by omega,⟨fun j' a b=>by omega⟩⟩
 case round=>
  obtain⟨i0,j,rfl,rfl,rfl,hj,X,O,HZ⟩:=hrel;by_cases hlt:j<cols
  ·go_wp2
   go_loop [6,8] (fun vi vb=> ∃i:Nat,vi= .int .i64 i∧vb= .bool false∧top≤i∧i≤1048576∧Aside0 (ZeroIn M top j i)) (fun v _=>M.length-(intOf v).toNat)
   case atStart=>exact⟨top,rfl,rfl,Nat.le_refl _,htop,⟨fun i' a b=>by omega⟩⟩
   case round=>
    obtain⟨i,rfl,rfl,hti,U,HZI⟩:=hrel;by_cases hin:i<M.length
    ·obtain⟨v,hr,hv⟩:=H.out.row i hin;obtain⟨A,c,rfl,hlc,hC,_⟩:=hv.out;have hev:=HS.out.eM i hin;obtain⟨ad,eA,G⟩:=Kd.at_int hC (j:Int) za (by rw[hev];omega);subst eA;rw[hev]at hr
     have hx:w.cell? (ad.add j)=some (.int .u8 (entry M i j)):=by
      rw[show entry M i j=rd (M.getD i []) (j:Int)from by simp[entry,rd]];simpa using G
     obtain⟨x,ex⟩: ∃x,x=entry M i j:=⟨_,rfl⟩
     rw[←ex]at hx
     have EX:=aK ex;clear ex G hC hv;by_cases h0x:x=0
     ·subst h0x;go_wp2
      go_round
      case rel=>exact⟨i+1,by go_num,rfl,by omega,by omega,⟨fun i' a b=>(Nat.lt_or_eq_of_le (Nat.le_of_lt_succ b)).elim (HZI.out i' a) (fun e=>by rw[e];exact EX.out.symm)⟩⟩
      case measure=>simp[intOf];omega
     ·have I:(x !=0)=true:=bne_iff_ne.mpr h0x;go_wp2
      go_ret3
      refine⟨i,j,true,rfl,rfl,?_⟩;simp only[if_true];exact⟨hlt,hj,hti,hin,fun e=>h0x (by rw[EX.out];exact e),HZI.out,HZ.out⟩
    ·go_wp2
     go_round
     case rel=>exact⟨i,j+1,rfl,by go_num,rfl,by omega,by omega,by omega,⟨fun j' a b i' c d=>(Nat.lt_or_eq_of_le (Nat.le_of_lt_succ b)).elim (fun h=>HZ.out j' a h i' c d) (fun e=>by rw[e];exact HZI.out i' c za)⟩⟩
     case measure=>simp[intOf];omega
  ·go_wp2
   go_ret3
   refine⟨i0,j,false,rfl,rfl,?_⟩;simp only[Bool.false_eq_true,if_false];exact fun j' a b=>HZ.out j' a za
def invT(a:Int):Int:=((field_Inv.f a).getD (0,0)).1
def elimTo(col top:Nat):Nat→List (List Int)×List (List Int)→List (List Int)×List (List Int)
 |0,s=>s
 |k+1,s=>let t:=elimTo col top k s;if k≠top∧entry t.1 k col≠0 then(macS t.1 k top (entry t.1 k col),macS t.2 k top (entry t.1 k col))else t
def stepAt(M D:List (List Int))(top i j:Nat):List (List Int)×List (List Int):=elimTo j top M.length (swapS (invT (entry M i j)) M top i,swapS (invT (entry M i j)) D top i)
def redStep(j:Nat)(s:(List (List Int)×List (List Int))×List Int):(List (List Int)×List (List Int))×List Int:=match firstIn s.1.1 s.2.length j with
 |none=>s
 |some i=>(stepAt s.1.1 s.1.2 s.2.length i j,s.2++ [(j:Int)])
theorem redStep_none{j:Nat}{s:(List (List Int)×List (List Int))×List Int}(h:firstIn s.1.1 s.2.length j=none):redStep j s=s:=by unfold redStep;rw[h]
theorem redStep_some{j i:Nat}{s:(List (List Int)×List (List Int))×List Int}(h:firstIn s.1.1 s.2.length j=some i):redStep j s=(stepAt s.1.1 s.1.2 s.2.length i j,s.2++ [(j:Int)]):=by unfold redStep;rw[h]
def redTo(M D:List (List Int)):Nat→(List (List Int)×List (List Int))×List Int
 |0=>((M,D),[])
 |j+1=>redStep j (redTo M D j)
theorem inv_some{a:Int}(h:0≤a∧a<256)(h0:a≠0):field_Inv.f a=some (invT a,0)∧0≤invT a∧invT a<256:=by
 have e:field_bounded.f (-1)=some 254:=by kernel_rfl
 have hl:=field_build.log_range (i:=a.toNat) za;have e2:field_Inv.f a=some (field_build.exp ((field_build.log a.toNat*254) % 255).toNat,0):=by
  unfold field_Inv.f field_Pow.f;rw[if_neg za,if_neg h0,if_pos h,e];simp
 have e3:invT a=field_build.exp ((field_build.log a.toNat*254) % 255).toNat:=by unfold invT;rw[e2,Option.getD_some]
 rw[e3];refine⟨e2,?_⟩;have hlt:((field_build.log a.toNat*254) % 255).toNat<(field_build.st 255).1.length:=by
  rw[(field_build.st_length 255).1];generalize field_build.log a.toNat=q;omega
 generalize((field_build.log a.toNat*254) % 255).toNat=i at*;exact bytesB_at exp_bytes hlt
theorem entry_byte{M D:List (List Int)}{cols wd:Nat}(h:Shp M D cols wd){i j:Nat}(hi:i<M.length)(hj:j<cols):0≤entry M i j∧entry M i j<256:=
 bytesB_at (rowsB_at h.bM i) (by rw[h.eM i hi];exact hj)
theorem elim_shp{M D:List (List Int)}{cols wd col top:Nat}(h:Shp M D cols wd)(ht:top<M.length): ∀k,k≤M.length→Shp (elimTo col top k (M,D)).1 (elimTo col top k (M,D)).2 cols wd∧(elimTo col top k (M,D)).1.length=M.length
 |0,_=>⟨h,rfl⟩
 |k+1,hk=>by
  obtain⟨ih,il⟩:=elim_shp (col:=col) h ht k za;unfold elimTo;simp only[]
  split
  ·exact⟨ih.mac za za,by simp[macS,il]⟩
  ·exact⟨ih,il⟩
theorem step_shp{M D:List (List Int)}{cols wd top i j:Nat}(h:Shp M D cols wd)(ht:top<M.length)(hi:i<M.length):Shp (stepAt M D top i j).1 (stepAt M D top i j).2 cols wd∧(stepAt M D top i j).1.length=M.length:=by
 have hs:=h.swap (o:=invT (entry M i j)) ht hi;have hl:(swapS (invT (entry M i j)) M top i).length=M.length:=by simp[swapS]
 have:=elim_shp (col:=j) hs (by omega:top<_) M.length za;rw[hl]at this
 exact this
theorem red_shp{M D:List (List Int)}{cols wd:Nat}(h:Shp M D cols wd): ∀j,Shp (redTo M D j).1.1 (redTo M D j).1.2 cols wd∧(redTo M D j).1.1.length=M.length∧(redTo M D j).2.length≤M.length∧(redTo M D j).2.length≤j
 |0=>⟨h,rfl,Nat.zero_le _,Nat.zero_le _⟩
 |j+1=>by
  obtain⟨a,b,c,d⟩:=red_shp h j;show Shp (redStep j (redTo M D j)).1.1 (redStep j (redTo M D j)).1.2 cols wd∧(redStep j (redTo M D j)).1.1.length=M.length∧(redStep j (redTo M D j)).2.length≤M.length∧(redStep j (redTo M D j)).2.length≤j+1
  cases hf:firstIn (redTo M D j).1.1 (redTo M D j).2.length j with
  |none=>
   rw[redStep_none hf];exact⟨a,b,c,by omega⟩
  |some i=>
   rw[redStep_some hf];obtain⟨h1,h2,_⟩:=seekCol_spec _ _ hf;have hs:=step_shp (j:=j) a (by omega:(redTo M D j).2.length<_) (by omega:i<_);exact⟨hs.1,by rw[hs.2,b],by simp;omega,by simp;omega⟩
theorem red_skip{M D:List (List Int)}{j:Nat} : ∀n,ZeroTo (redTo M D j).1.1 (redTo M D j).2.length j (j+n)→redTo M D (j+n)=redTo M D j
 |0,_=>rfl
 |n+1,h=>by
  have ih:=red_skip (M:=M) (D:=D) n fun j' a b=>h j' a za;show redStep (j+n) (redTo M D (j+n))=_;rw[ih];exact redStep_none (seekCol_none _ _ fun i' a b=>h (j+n) za za i' a za)
theorem red_hit{M D:List (List Int)}{c j i:Nat}(hcj:c≤j)(hz:ZeroTo (redTo M D c).1.1 (redTo M D c).2.length c j)(h1:(redTo M D c).2.length≤i)(h2:i<(redTo M D c).1.1.length)(h3:entry (redTo M D c).1.1 i j≠0)(h4:ZeroIn (redTo M D c).1.1 (redTo M D c).2.length j i):
 redTo M D (j+1)=(stepAt (redTo M D c).1.1 (redTo M D c).1.2 (redTo M D c).2.length i j,(redTo M D c).2++ [(j:Int)]):=by
 obtain⟨n,rfl⟩: ∃n,j=c+n:=⟨j-c,by omega⟩
 have e:=red_skip n hz;show redStep (c+n) (redTo M D (c+n))=_;rw[e];exact redStep_some (seekCol_some _ _ h1 za h3 h4)
structure RG (w:World) (R g d cl cd b0 bt:Nat) (Al Ad:Option Addr) (M D:List (List Int)) (cols top:Nat) (piv:List Int) (v3:Value) (wr:World):Prop where
 hold:Hold wr R g d cl cd Al Ad M D cols
 cbt:wr.cell? ⟨bt,0,none⟩=some (.int .i64 top)
 fbt:wr.frozen? ⟨bt,0,none⟩=false
 cb0:wr.cell? ⟨b0,0,none⟩=some (.pointer (some ⟨R,0,none⟩))
 piv:Kd.R (Kd.int .i64) 3 wr w.heap.size (fun k=>k≠bt∧k≠b0) v3 piv
 chg:Chg w wr (fun i=>two g d i∨w.heap.size≤i)
 n1:w.heap.size≤bt
 n2:w.heap.size≤b0
theorem RG.below{w:World}{R g d cl cd b0 bt:Nat}{Al Ad:Option Addr}{M D:List (List Int)}{cols top:Nat}{piv:List Int}{v3:Value}{wr w1:World}(h:RG w R g d cl cd b0 bt Al Ad M D cols top piv v3 wr)(hb:Below wr.heap.size wr w1):RG w R g d cl cd b0 bt Al Ad M D cols top piv v3 w1:=
 ⟨h.hold.below hb,(hb.cell (p:=⟨bt,0,none⟩) (World.block_lt_of_cell? _ _ h.cbt)).trans h.cbt,(below_frozen (p:=⟨bt,0,none⟩) hb (World.block_lt_of_cell? _ _ h.cbt)).trans h.fbt,(hb.cell (p:=⟨b0,0,none⟩) (World.block_lt_of_cell? _ _ h.cb0)).trans h.cb0,
  Kd.R_below h.piv hb,h.chg.trans (Chg.below_all hb _),h.n1,h.n2⟩
theorem RG.drew{w:World}{R g d cl cd b0 bt:Nat}{Al Ad:Option Addr}{M D:List (List Int)}{cols top:Nat}{piv:List Int}{v3:Value}{wr:World}(h:RG w R g d cl cd b0 bt Al Ad M D cols top piv v3 wr):RG w R g d cl cd b0 bt Al Ad M D cols top piv v3 wr.drew:=h.below (below_drew (Below.refl _ _))
theorem RG.both{w:World}{R g d cl cd b0 bt:Nat}{Al Ad:Option Addr}{M D M' D':List (List Int)}{cols top:Nat}{piv:List Int}{v3:Value}{wr w1:World}(h:RG w R g d cl cd b0 bt Al Ad M D cols top piv v3 wr)(hg:g<w.heap.size)(hd:d<w.heap.size)
 (hh:Hold w1 R g d cl cd Al Ad M' D' cols) (hc:Chg wr w1 (two g d)):RG w R g d cl cd b0 bt Al Ad M' D' cols top piv v3 w1:=by
 have n1:=h.n1;have n2:=h.n2;have hbt:=hc.block bt (World.block_lt_of_cell? _ _ h.cbt) (fun e=>by rcases e with e|e<;>omega);have G:=hc.block b0 (World.block_lt_of_cell? _ _ h.cb0) (fun e=>by rcases e with e|e<;>omega)
 exact⟨hh,(cell_same (p:=⟨bt,0,none⟩) hbt).trans h.cbt,(frozen_same (p:=⟨bt,0,none⟩) hbt).trans h.fbt,(cell_same (p:=⟨b0,0,none⟩) G).trans h.cb0,
  Kd.R_mono (Kd.R_step (Kd.R_bound h.piv) (fun k hk hlt=>hc.block k hlt (fun e=>by have:=hk.2.1;rcases e with e|e<;>omega))) (fun k hk=>hk.1),h.chg.trans (hc.mono fun i _ hi=> .inl hi),n1,n2⟩
theorem RG.app{w:World}{R g d cl cd b0 bt:Nat}{Al Ad:Option Addr}{M D:List (List Int)}{cols top:Nat}{piv piv':List Int}{v3 v3':Value}{wr w1:World}(h:RG w R g d cl cd b0 bt Al Ad M D cols top piv v3 wr)(hg:g<w.heap.size)(hd:d<w.heap.size)(hR:R<w.heap.size)
 (hr:wr.grownBy w1 v3.ownBlock) (hp:Kd.R (Kd.int .i64) 3 w1 w.heap.size (fun k=>k≠bt∧k≠b0) v3' piv'):RG w R g d cl cd b0 bt Al Ad M D cols top piv' v3' w1:=by
 have n1:=h.n1;have n2:=h.n2;have hv: ∀k,v3.ownBlock=some k→w.heap.size≤k∧k≠bt∧k≠b0∧ ∃cells:Array Value,wr.heap[k]? =some (.cells cells 3 (0,0)):=fun k hk=>by
  have hb:=Kd.R_bound h.piv;have h0:=hb.1 k hk;obtain⟨h1,h2,_,q,hq,c,hc⟩:=h0;refine⟨h2,h1.1,h1.2,c,?_⟩;have:q=3:=(List.mem_cons.1 hq).elim id (fun hx=>by cases hx);rw[←this];exact hc
 have blk: ∀b,b<wr.heap.size→(∀k,v3.ownBlock=some k→b≠k)→w1.heap[b]? =wr.heap[b]? :=fun b hb hne=>hr.block b hb (by
  cases I:v3.ownBlock with
  |none=>simp
  |some k=>simpa using hne k I)
 have kb:KeepB wr w1:=fun b cells hb=>blk b (lt_of_get hb) (fun k hk e=>by
  obtain⟨_,_,_,c,hc⟩:=hv k hk;subst e;rw[hb]at hc
  injection hc with hc;injection hc with _ hc;exact absurd hc zc)
 have hc:Chg wr w1 (fun i=>v3.ownBlock=some i):=⟨hr.os,hr.tape,hr.output,hr.size,fun i hi hs=>hr.block i hi (fun e=>hs e.symm)⟩
 have hbt:=blk bt (World.block_lt_of_cell? _ _ h.cbt) (fun k hk=>fun e=>(hv k hk).2.1 e.symm);have G:=blk b0 (World.block_lt_of_cell? _ _ h.cb0) (fun k hk=>fun e=>(hv k hk).2.2.1 e.symm);refine⟨h.hold.chg hc kb (fun e=>?_) (fun _ e=>?_) (fun _ e=>?_),(cell_same (p:=⟨bt,0,none⟩) hbt).trans h.cbt,(frozen_same (p:=⟨bt,0,none⟩) hbt).trans h.fbt,(cell_same (p:=⟨b0,0,none⟩) G).trans h.cb0,hp,h.chg.trans (hc.mono fun i _ hi=> .inr (hv i hi).1),n1,n2⟩
 all_goals
  have:=(hv _ e).1;omega
theorem RG.next{w:World}{R g d cl cd b0 bt:Nat}{Al Ad:Option Addr}{M D:List (List Int)}{cols top:Nat}{piv:List Int}{v3:Value}{wr:World}(h:RG w R g d cl cd b0 bt Al Ad M D cols top piv v3 wr)(top':Nat):
 RG w R g d cl cd b0 wr.heap.size Al Ad M D cols top' piv v3 (wr.alloc (.cells #[.int .i64 top'] 3)):=by
 have h1:=h.below (below_alloc (Below.refl _ _) (.cells #[.int .i64 top'] 3));have hl:wr.heap.size<(wr.alloc (.cells #[.int .i64 top'] 3)).heap.size:=by simp
 refine⟨h1.hold,?_,?_,h1.cb0,Kd.R_mono (Kd.R_alloc (Kd.R_bound h.piv) _) (fun k hk=>⟨by have:=hk.2.2.1;omega,hk.1.2⟩),h1.chg,h.chg.size,h.n2⟩
 ·exact(blk_cell (blk_new _ _) 0).trans rfl
 ·exact blk_frozen (blk_new _ _) 0
theorem red_full{M D:List (List Int)}{j:Nat}(h:(redTo M D j).1.1.length≤(redTo M D j).2.length)(n:Nat):redTo M D (j+n)=redTo M D j:=
 red_skip n fun j' _ _ i' a b=>by omega
theorem RG.own_lt{w:World}{R g d cl cd b0 bt:Nat}{Al Ad:Option Addr}{M D:List (List Int)}{cols top:Nat}{piv:List Int}{v3:Value}{wr:World}(h:RG w R g d cl cd b0 bt Al Ad M D cols top piv v3 wr){k:Nat}(hk:v3.ownBlock=some k):k<wr.heap.size:=
 ((Kd.R_bound h.piv).1 k hk).2.2.1
theorem RG.young{w:World}{R g d cl cd b0 bt:Nat}{Al Ad:Option Addr}{M D:List (List Int)}{cols top:Nat}{piv:List Int}{v3:Value}{wr w1 w2:World}(h:RG w R g d cl cd b0 bt Al Ad M D cols top piv v3 wr){b:Nat}(hb:wr.heap.size≤b)(G:b<w1.heap.size)(hg:w1.grownBy w2 v3.ownBlock):w2.heap[b]? =w1.heap[b]? :=
 hg.block b G (by
  cases hv:v3.ownBlock with
  |none=>simp
  |some k=>
   have:=h.own_lt hv;intro e;injection e with e;omega)
theorem RG.old{w:World}{R g d cl cd b0 bt:Nat}{Al Ad:Option Addr}{M D:List (List Int)}{cols top:Nat}{piv:List Int}{v3:Value}{wr:World}(h:RG w R g d cl cd b0 bt Al Ad M D cols top piv v3 wr):bt<wr.heap.size∧b0<wr.heap.size:=⟨World.block_lt_of_cell? _ _ h.cbt,World.block_lt_of_cell? _ _ h.cb0⟩
set_option maxHeartbeats 4000000 in
set_option maxRecDepth 100000 in
theorem gauss_reduce.calls(R g d cl cd:Nat)(Al Ad:Option Addr)(M D:List (List Int))(cols wd:Nat)(w:World)(hH:Hold w R g d cl cd Al Ad M D cols)(hS:Shp M D cols wd)(hg:g<w.heap.size)(hd:d<w.heap.size):
 Calls Tryd.prog 83 #[.pointer (some ⟨R,0,none⟩)] w fun e w'=> ∃v,e= .returned v∧Aside0 (Hold w' R g d cl cd Al Ad (redTo M D cols).1.1 (redTo M D cols).1.2 cols∧Kd.R (Kd.int .i64) 3 w' w.heap.size (fun _=>True) v (redTo M D cols).2∧Chg w w' (fun i=>two g d i∨w.heap.size≤i)):=by
 have hR:=hH.small;have HH:=aK hH;have HS:=aK hS;clear hH hS
 go_enter Tryd.func83,Tryd.ntmps83
 go_wp2;have H0:Aside0 (RG w R g d cl cd w.heap.size (w.heap.size+1) Al Ad M D cols 0 [] (.slice none 0 0) ((w.alloc (.cells #[.pointer (some ⟨R,0,none⟩)] 104)).alloc (.cells #[.int .i64 0] 3))):=by
  have hb:=below_alloc (below_alloc (Below.refl w.heap.size w) (.cells #[.pointer (some ⟨R,0,none⟩)] 104)) (.cells #[.int .i64 0] 3);have e1:=blk_new (w.alloc (.cells #[.pointer (some ⟨R,0,none⟩)] 104)) (.cells #[.int .i64 0] 3);rw[World.size_alloc]at e1
  have e0:((w.alloc (.cells #[.pointer (some ⟨R,0,none⟩)] 104)).alloc (.cells #[.int .i64 0] 3)).heap[w.heap.size]? =some (.cells #[.pointer (some ⟨R,0,none⟩)] 104):=heap_alloc2_old w _ _;exact⟨⟨HH.out.below hb,(blk_cell e1 0).trans rfl,blk_frozen e1 0,(blk_cell e0 0).trans rfl,Kd.R_nil _ _ _ _ _,(Chg.below_all hb _),by omega,Nat.le_refl _⟩⟩
 generalize(w.alloc (.cells #[.pointer (some ⟨R,0,none⟩)] 104)).alloc (.cells #[.int .i64 0] 3)=W0 at*
 go_loopg [3,5,6] M.length (fun kq v3 v5 v6 wr=> ∃(col bt:Nat),v5= .pointer (some ⟨bt,0,none⟩)∧v6= .int .i64 col∧col≤cols∧Aside0 (kq+(redTo M D col).2.length=M.length)∧Aside0 (RG w R g d cl cd w.heap.size bt Al Ad (redTo M D col).1.1 (redTo M D col).1.2 cols (redTo M D col).2.length (redTo M D col).2 v3 wr))
 case atStart=>exact⟨0,w.heap.size+1,rfl,rfl,Nat.zero_le _,⟨rfl⟩,H0⟩
 case round=>
  obtain⟨col,bt,rfl,rfl,hcol,HK,HG⟩:=hrel;clear H0;obtain⟨aw,aj,ba,a0⟩:=red_shp HS.out col;have ab:=aK aw;have hsm:=HS.out.small;have I:=aK HG.out.drew;have y1:wr.drew.cell? ⟨bt,0,none⟩=some (.int .i64 (redTo M D col).2.length):=I.out.cbt;have y2:wr.drew.cell? ⟨w.heap.size,0,none⟩=some (.pointer (some ⟨R,0,none⟩)):=I.out.cb0;have y3:wr.drew.cell? ⟨R,0,none⟩=some (.slice Al M.length cl):=by rw[←aj];exact I.out.hold.head
  have hbd:(redTo M D col).2.length≤64:=by omega
  clear aw HG a0;generalize es:redTo M D col=s at*;have ES:=aK es;clear es
  go_wp2_with fail
  refine start_ (n:=7) (S:=fun w'=>w'.cell? ⟨bt,0,none⟩=some (.int .i64 s.2.length)∧w'.cell? ⟨w.heap.size,0,none⟩=some (.pointer (some ⟨R,0,none⟩))∧w'.cell? ⟨R,0,none⟩=some (.slice Al M.length cl)) (ds:= []) (mB 7 0) zb rfl rfl ⟨y1,y2,y3⟩ (fun hHeld=>?_);refine ztk3 0 (some 15) (mB 7 1) hHeld ?_;refine ztk3 1 (some 16) (mB 7 3) hHeld ?_;refine zpu 2 (some 17) (mB 7 7) ?_;refine zpu 3 (some 18) (mB 7 15) ?_;refine ztk3 4 (some 19) (mB 7 31) hHeld ?_;refine zpu 5 (some 20) (mB 7 63) ?_;refine zpu 6 (some 21) (mB 7 127) ?_;refine done_ zb ?_;clear hHeld;generalize wr.drew=w1 at*;by_cases hlt:s.2.length<M.length
  ·have tst:decide ((s.2.length:Int)<(M.length:Int))=true:=by simpa using hlt
   go_wp2_with fail
   refine(gauss_seek.calls R g d cl cd Al Ad s.1.1 s.1.2 cols wd s.2.length col w1 I.out.hold ab.out za za za).mono ?_;rintro e w2 ⟨i,j,b,rfl,rfl,hsk⟩
   cases b with
   |false=>
    have HZ:=aK (show ZeroTo s.1.1 s.2.length col cols from hsk);clear hsk;have HE:=aK (red_skip (M:=M) (D:=D) (j:=col) (cols-col) (by rw[ES.out,show col+(cols-col)=cols from by omega];exact HZ.out));rw[show col+(cols-col)=cols from by omega]at HE
    go_wp2_with fail
    go_ret
    refine⟨_,rfl,?_⟩;have ao:=I.out.below (below_alloc (Below.refl _ _) (.cells #[.int .i64 i] 3));rw[HE.out,ES.out];exact⟨⟨ao.hold,Kd.R_mono ao.piv (fun _ _=>trivial),ao.chg⟩⟩
   |true=>
    obtain⟨k1,k2,k3,k4,k5,k6,k7⟩:=hsk;have ay:=aK k5;have a6:=aK k6;have a7:=aK k7;have HHIT:=aK (show redTo M D (j+1)=(stepAt s.1.1 s.1.2 s.2.length i j,s.2++ [(j:Int)])by
     have h:=red_hit (M:=M) (D:=D) (c:=col) (j:=j) (i:=i) k2;rw[ES.out]at h
     exact h k7 k3 k4 k5 k6)
    clear k5 k6 k7;have HOL:=aK I.out.old;have hsz:w.heap.size≤w2.heap.size:=I.out.chg.size;have hpl:s.2.length≤64:=by omega
    go_wp2_with ((with_reducible refine gate_builtin (b:= .append) (xs:= #[.tmp 37,.tmp 39]) rfl ?_);at_builtin;go_loud (refine Kd.R_append (Kd.int .i64) (w0:=w2.alloc (.cells #[.int .i64 i] 3)) w.heap.size rfl (.tmp 37) (.tmp 39) 42 3 (.int .i64 0) 8 rfl Tryd.underlying42 info3 rfl zc za u3 s.2 (j:Int) [.int .i64 j] (fun k=>k≠bt∧k≠w.heap.size) (fun _=>False) rfl (by rw[World.size_alloc];rfl) ?aP (fun _ hk=>hk.elim) ?aF ?aO ?aB ?aS ?aL ?_;(case aP=>exact rfl);(case aB=>exact Below.refl _ _);(case aF=>intro k hk;have:=HOL.out;simp at hk;omega);(case aO=>exact Kd.R_alloc I.out.piv _);(case aS=>simp;omega);(case aL=>omega);intro v3' w3 ho hb hgr hat;have HO:=aK ho;have HGR:=aK hgr;clear ho hb hgr hat))
    have O:=aK ((I.out.below (below_alloc (Below.refl _ _) (.cells #[.int .i64 i] 3))).app hg hd hR HGR.out HO.out);have ak:=I.out.young (b:=w2.heap.size) (Nat.le_refl _) zd HGR.out;have hbi:w3.heap[w2.heap.size]? =some (.cells #[.int .i64 i] 3):=ak.trans (blk_new _ _);have bb:w2.heap.size<w3.heap.size:=lt_of_get hbi;generalize w2.heap.size=bi at*;obtain⟨vi,hri,hvi⟩:=O.out.hold.L.row i k4;obtain⟨Ai,ci,rfl,hlc,hCi,_⟩:=hvi.out;have hev:=ab.out.eM i k4;obtain⟨ad,eA,ax⟩:=Kd.at_int hCi (j:Int) za (by rw[hev];omega);subst eA;rw[hev]at hri
    have hx:w3.cell? (ad.add j)=some (.int .u8 (entry s.1.1 i j)):=by
     rw[show entry s.1.1 i j=rd (s.1.1.getD i []) (j:Int)from by simp[entry,rd]];simpa using ax
    have hxb:=entry_byte ab.out k4 k1;have HST:=aK (show stepAt s.1.1 s.1.2 s.2.length i j=elimTo j s.2.length s.1.1.length (swapS (invT (entry s.1.1 i j)) s.1.1 s.2.length i,swapS (invT (entry s.1.1 i j)) s.1.2 s.2.length i)from rfl);have HINV:=aK (inv_some hxb ay.out);clear ax hCi hvi;generalize entry s.1.1 i j=x at*;have z1:=O.out.cb0;have z2:w3.cell? ⟨R,0,none⟩=some (.slice Al M.length cl):=by rw[←aj];exact O.out.hold.head
    have hAl:=O.out.hold.hA za;have k4M:i<M.length:=by omega
    have ai:=aK aj;clear aj;subst hAl;have z3:w3.cell? ⟨bi,0,none⟩=some (.int .i64 i):=(blk_cell hbi 0).trans rfl;have a9:=O.out.old;clear y1 y2 y3 tst;refine start_ (n:=17) (S:=fun w'=>w'.cell? ⟨w.heap.size,0,none⟩=some (.pointer (some ⟨R,0,none⟩))∧w'.cell? ⟨R,0,none⟩=some (.slice (some ⟨g,0,none⟩) M.length cl)∧w'.cell? ⟨bi,0,none⟩=some (.int .i64 i)∧w'.cell? ⟨g,i,none⟩=some (.slice (some ad) cols ci)∧w'.cell? (ad.add j)=some (.int .u8 x)) (ds:= [15]) (mB 17 0) zb rfl rfl ⟨z1,z2,z3,hri,hx⟩ (fun hHeld=>?_);have aa:=aK O.out.drew;have U:w3.drew.heap[bi]? =some (.cells #[.int .i64 i] 3):=hbi;generalize w3.drew=w4 at aa U hHeld⊢;refine zpu 7 (some 49) (mB 17 128) ?_;refine ztk5 0 (some 42) (mB 17 129) hHeld ?_;refine zpu 1 (some 43) (mB 17 131) ?_;refine zpu 2 (some 44) (mB 17 135) ?_;refine ztk5 3 (some 45) (mB 17 143) hHeld ?_;refine ztk5 4 (some 46) (mB 17 159) hHeld ?_;refine zpu 5 (some 47) (mB 17 191) ?_;refine ztk5 6 (some 48) (mB 17 255) hHeld ?_;refine zpu 8 (some 50) (mB 17 511) ?_;refine ztk5 9 (some 51) (mB 17 1023) hHeld ?_;refine join_ (σ:=Nat) 2 (mB 17 32767) (fun s=> [(52,.tuple #[.int .u8 (invT x),.int .i64 0]),(41,.tuple #[.int .u8 (invT x),.int .i64 0]),(53,.int .u8 (invT x)),(54,.int .i64 0),(10,.pointer (some ⟨s,0,none⟩))]) (fun s w'=>Aside0 (Below w4.heap.size w4 w'∧w4.heap.size≤s∧w'.heap[s]? =some (.cells #[.int .u8 0] 5))) ?_ ?_;rotate_left
    ·intro hCont;refine two_ (i:=10) (j:=14) (Ni:=some 52) (Nj:=some 10) (mB 17 2047) (mB 17 17407) rfl rfl rfl rfl zb zc zc (fun K hK=>?_) (fun K hK=>?_)
     ·skip
      refine goes_ Tryd.func93 zb rfl #[.int .u8 x] ze rfl rfl zg ?_;refine(field_Inv.calls x _ 0 _ HINV.out.1).mono ?_;rintro e w5 ⟨rfl,G⟩;refine⟨_,rfl,?_⟩;refine hK.out _ _ ⟨pw_cell_below G hHeld.1,pw_cell_below G hHeld.2.1,pw_cell_below G hHeld.2.2.1,pw_cell_below G hHeld.2.2.2.1,pw_cell_below G hHeld.2.2.2.2⟩ (fun hHeld=>?_);clear hK K;refine znm (some 52) ?_;refine zpu 11 (some 41) (mB 17 4095) ?_;refine zpu 12 (some 53) (mB 17 8191) ?_;refine zpu 13 (some 54) (mB 17 16383) ?_;refine zon 14 (some 10) (mB 17 32767) fun K hK=>?_;refine value_ (w1:=?_) (v:=?_) ze rfl ?_ ?_;rotate_left 2
      ·go_simp;constructor
       ·rfl
       ·rfl
      refine hK.out _ _ ⟨pw_cell_below (below_alloc (Below.refl _ _) _) hHeld.1,pw_cell_below (below_alloc (Below.refl _ _) _) hHeld.2.1,pw_cell_below (below_alloc (Below.refl _ _) _) hHeld.2.2.1,pw_cell_below (below_alloc (Below.refl _ _) _) hHeld.2.2.2.1,pw_cell_below (below_alloc (Below.refl _ _) _) hHeld.2.2.2.2⟩ (fun hHeld=>?_);clear hK K;refine znm (some 10) ?_;exact norm_ zt (hCont _ _ ⟨⟨below_step G (below_alloc (Below.refl _ _) _),G.size,blk_new _ _⟩⟩)
     ·skip
      refine value_ (w1:=?_) (v:=?_) ze rfl ?_ ?_;rotate_left 2
      ·go_simp;constructor
       ·rfl
       ·rfl
      refine hK.out _ _ ⟨pw_cell_below (below_alloc (Below.refl _ _) _) hHeld.1,pw_cell_below (below_alloc (Below.refl _ _) _) hHeld.2.1,pw_cell_below (below_alloc (Below.refl _ _) _) hHeld.2.2.1,pw_cell_below (below_alloc (Below.refl _ _) _) hHeld.2.2.2.1,pw_cell_below (below_alloc (Below.refl _ _) _) hHeld.2.2.2.2⟩ (fun hHeld=>?_);clear hK K;refine znm (some 10) ?_;refine zon 10 (some 52) (mB 17 18431) fun K hK=>?_;refine goes_ Tryd.func93 zb rfl #[.int .u8 x] ze rfl rfl zg ?_;refine(field_Inv.calls x _ 0 _ HINV.out.1).mono ?_;rintro e w5 ⟨rfl,G⟩;refine⟨_,rfl,?_⟩;refine hK.out _ _ ⟨pw_cell_below G hHeld.1,pw_cell_below G hHeld.2.1,pw_cell_below G hHeld.2.2.1,pw_cell_below G hHeld.2.2.2.1,pw_cell_below G hHeld.2.2.2.2⟩ (fun hHeld=>?_);clear hK K;refine znm (some 52) ?_;refine zpu 11 (some 41) (mB 17 20479) ?_;refine zpu 12 (some 53) (mB 17 24575) ?_;refine zpu 13 (some 54) (mB 17 32767) ?_;exact norm_ zt (hCont _ _ ⟨⟨below_step (below_alloc (Below.refl _ _) _) G,Nat.le_refl _,(G.block _ (lt_of_get (blk_new _ _))).trans (blk_new _ _)⟩⟩)
    rintro bo w6 HF;have hbo:w6.cell? ⟨bo,0,none⟩=some (.int .u8 0):=(blk_cell HF.out.2.2 0).trans rfl;have hfo:w6.frozen? ⟨bo,0,none⟩=false:=blk_frozen HF.out.2.2 0;have hHeld:w6.cell? ⟨w.heap.size,0,none⟩=some (.pointer (some ⟨R,0,none⟩))∧w6.cell? ⟨R,0,none⟩=some (.slice (some ⟨g,0,none⟩) M.length cl)∧w6.cell? ⟨bi,0,none⟩=some (.int .i64 i)∧w6.cell? ⟨g,i,none⟩=some (.slice (some ad) cols ci)∧w6.cell? (ad.add j)=some (.int .u8 x):=by
     obtain⟨h1,h2,h3,h4,h5⟩:=hHeld;exact⟨pw_cell_below HF.out.1 h1,pw_cell_below HF.out.1 h2,pw_cell_below HF.out.1 h3,pw_cell_below HF.out.1 h4,pw_cell_below HF.out.1 h5⟩
    refine znq ?_;refine zln 15 (none) (mB 17 65535) fun K hK=>?_;refine zsk ?_;refine hK.out _ _ ?_;clear hK K;refine zpu 16 (some 11) (mB 17 131071) ?_;refine done_ zb ?_;clear hHeld hbo hfo;have aq:Below w4.heap.size w4 (w6.setCell ⟨bo,0,none⟩ (.int .u8 (invT x))):=HF.out.1.setCell HF.out.2.1 _;have Y:=aK (aa.out.below aq);have am:(w6.setCell ⟨bo,0,none⟩ (.int .u8 (invT x))).cell? ⟨bo,0,none⟩=some (.int .u8 (invT x)):=World.cell?_setCell_same' _ _ _ (by rw[(blk_cell HF.out.2.2 0).trans rfl];rfl);have al:(w6.setCell ⟨bo,0,none⟩ (.int .u8 (invT x))).cell? ⟨bi,0,none⟩=some (.int .i64 i):=(aq.cell (p:=⟨bi,0,none⟩) (lt_of_get U)).trans ((blk_cell U 0).trans rfl);have a3:=HF.out.2.1;have a4:=aa.out.chg.size;have h4o:=aa.out.old;clear HF aq hbi ak U hri hx z1 z2 z3;generalize w6.setCell ⟨bo,0,none⟩ (.int .u8 (invT x))=w7 at*
    go_wp2_with fail
    have a8:=Y.out.n1;refine(gauss_both.swap w.heap.size R g d cl cd bt bi bo (some ⟨g,0,none⟩) Ad s.1.1 s.1.2 cols wd s.2.length i (invT x) w7 Y.out.hold ab.out Y.out.cb0 Y.out.cbt al am HINV.out.2 (by have:=ai.out;omega) k4 za za).mono ?_;rintro e w8 ⟨⟨v,rfl⟩,hq⟩;have af:=aK (Y.out.both hg hd hq.out.1 hq.out.2);have az:=aK (ab.out.swap (o:=invT x) (top:=s.2.length) (i:=i) (by have:=ai.out;omega) k4);have ah:=aK (show(swapS (invT x) s.1.1 s.2.length i).length=M.length by rw[←ai.out];simp[swapS]);clear hq Y al am aa O I;generalize swapS (invT x) s.1.1 s.2.length i=M8 at*;generalize swapS (invT x) s.1.2 s.2.length i=D8 at*;have z1:=af.out.cb0;have z2:w8.cell? ⟨R,0,none⟩=some (.slice (some ⟨g,0,none⟩) M.length cl):=by rw[←ah.out];exact af.out.hold.head
    go_wp2_with fail
    clear z1 z2
    go_loopg [63] M.length (fun kq a1 wr=> ∃(k:Nat),a1= .int .i64 k∧k≤M.length∧Aside0 (kq+k=M.length)∧Aside0 (RG w R g d cl cd w.heap.size bt (some ⟨g,0,none⟩) Ad (elimTo j s.2.length k (M8,D8)).1 (elimTo j s.2.length k (M8,D8)).2 cols s.2.length (s.2++ [(j:Int)]) v3' wr))
    case atStart=>exact⟨0,rfl,Nat.zero_le _,⟨rfl⟩,af⟩
    case round=>
     obtain⟨k,rfl,hkM,ap,HGI⟩:=hrel;clear af;obtain⟨au,av⟩:=elim_shp (col:=j) az.out (by rw[ah.out];exact hlt:s.2.length<_) k (by rw[ah.out];exact hkM);have HSE:=aK au;have HLE:=aK (av.trans ah.out);have HEX:=aK (show elimTo j s.2.length (k+1) (M8,D8)=(let t:=elimTo j s.2.length k (M8,D8);if k≠s.2.length∧entry t.1 k j≠0 then(macS t.1 k s.2.length (entry t.1 k j),macS t.2 k s.2.length (entry t.1 k j))else t)from rfl);clear au av;by_cases hkl:k<M.length
     ·have a5:decide ((k:Int)<(M.length:Int))=true:=by simpa using hkl
      go_wp2_with fail
      have HGK:=aK (HGI.out.below (below_alloc (Below.refl _ _) (.cells #[.int .i64 k] 3)));have hbk:=blk_new wr (.cells #[.int .i64 k] 3);have hbkw:w.heap.size≤wr.heap.size:=HGI.out.chg.size;have hold:=HGI.out.old;clear HGI;generalize wr.alloc (.cells #[.int .i64 k] 3)=wa at*;generalize wr.heap.size=bk at*;generalize elimTo j s.2.length k (M8,D8)=t at*;obtain⟨vk,hrk,hvk⟩:=HGK.out.hold.L.row k zak;obtain⟨Ak,ck,rfl,hlk,hCk,_⟩:=hvk.out;have hek:=HSE.out.eM k zak;obtain⟨adk,eAk,an⟩:=Kd.at_int hCk (j:Int) za (by rw[hek];omega);subst eAk;rw[hek]at hrk
      have hxk:wa.cell? (adk.add j)=some (.int .u8 (entry t.1 k j)):=by
       rw[show entry t.1 k j=rd (t.1.getD k []) (j:Int)from by simp[entry,rd]];simpa using an
      have hcb:=entry_byte HSE.out (i:=k) (j:=j) zak k1;clear an hCk hvk;generalize entry t.1 k j=c at*;have z1:=HGK.out.cb0;have z2:wa.cell? ⟨R,0,none⟩=some (.slice (some ⟨g,0,none⟩) M.length cl):=by rw[←HLE.out];exact HGK.out.hold.head
      have z3:wa.cell? ⟨bk,0,none⟩=some (.int .i64 k):=(blk_cell hbk 0).trans rfl;refine start_ (n:=12) (S:=fun w'=>w'.cell? ⟨w.heap.size,0,none⟩=some (.pointer (some ⟨R,0,none⟩))∧w'.cell? ⟨R,0,none⟩=some (.slice (some ⟨g,0,none⟩) M.length cl)∧w'.cell? ⟨bk,0,none⟩=some (.int .i64 k)∧w'.cell? ⟨g,k,none⟩=some (.slice (some adk) cols ck)∧w'.cell? (adk.add j)=some (.int .u8 c)) (ds:= [11]) (mB 12 0) zb rfl rfl ⟨z1,z2,z3,hrk,hxk⟩ (fun hHeld=>?_);have ag:=aK HGK.out.drew;have X:wa.drew.heap[bk]? =some (.cells #[.int .i64 k] 3):=hbk;generalize wa.drew=w9 at ag X hHeld⊢;refine zpu 7 (some 73) (mB 12 128) ?_;refine ztk5 0 (some 66) (mB 12 129) hHeld ?_;refine zpu 1 (some 67) (mB 12 131) ?_;refine zpu 2 (some 68) (mB 12 135) ?_;refine ztk5 3 (some 69) (mB 12 143) hHeld ?_;refine ztk5 4 (some 70) (mB 12 159) hHeld ?_;refine zpu 5 (some 71) (mB 12 191) ?_;refine ztk5 6 (some 72) (mB 12 255) hHeld ?_;refine zpu 8 (some 74) (mB 12 511) ?_;refine ztk5 9 (some 75) (mB 12 1023) hHeld ?_;refine zon 10 (some 13) (mB 12 2047) fun K hK=>?_;refine value_ (w1:=?_) (v:=?_) ze rfl ?_ ?_;rotate_left 2
      ·go_simp;constructor
       ·rfl
       ·rfl
      refine hK.out _ _ ⟨pw_cell_below (below_alloc (Below.refl _ _) _) hHeld.1,pw_cell_below (below_alloc (Below.refl _ _) _) hHeld.2.1,pw_cell_below (below_alloc (Below.refl _ _) _) hHeld.2.2.1,pw_cell_below (below_alloc (Below.refl _ _) _) hHeld.2.2.2.1,pw_cell_below (below_alloc (Below.refl _ _) _) hHeld.2.2.2.2⟩ (fun hHeld=>?_);clear hK K;refine znm (some 13) ?_;refine zln 11 (none) (mB 12 4095) fun K hK=>?_;refine zsk ?_;refine hK.out _ _ ?_;clear hK K;refine done_ zb ?_;have hHb:=below_alloc (Below.refl w9.heap.size w9) (.cells #[.int .u8 c] 5);have J:=aK (ag.out.below hHb);have ae:(w9.alloc (.cells #[.int .u8 c] 5)).cell? ⟨bk,0,none⟩=some (.int .i64 k):=(blk_cell ((hHb.block bk (lt_of_get X)).trans X) 0).trans rfl;have ac:(w9.alloc (.cells #[.int .u8 c] 5)).cell? ⟨w9.heap.size,0,none⟩=some (.int .u8 c):=(blk_cell (blk_new w9 _) 0).trans rfl;have hbcw:w.heap.size≤w9.heap.size:=ag.out.chg.size;have z4:=J.out.cbt;have n1:=J.out.n1;clear hHeld X ag HGK hbk hHb hrk hxk z1 z2 z3;generalize w9.alloc (.cells #[.int .u8 c] 5)=a2 at*;generalize w9.heap.size=bc at*;by_cases hkt:k=s.2.length
      ·have t1:((k:Int)!=(s.2.length:Int))=false:=bne_eq_false_iff_eq.mpr za;have e:=aK (HEX.out.trans (if_neg (fun h=>h.1 hkt)));have HKT:=aK hkt;clear hkt
       go_wp2_with fail
       go_roundg (M.length-(k+1))
       case measure=>have:=ap.out;omega
       case rel=>exact⟨k+1,by go_num,by omega,⟨by omega⟩,⟨by rw[e.out];exact J.out⟩⟩
      ·have t1:((k:Int)!=(s.2.length:Int))=true:=bne_iff_ne.mpr za;by_cases Z:c=0
       ·have t2:(c !=0)=false:=bne_eq_false_iff_eq.mpr Z;have e:=aK (HEX.out.trans (if_neg (fun h=>h.2 Z)));clear Z
        go_wp2_with fail
        go_roundg (M.length-(k+1))
        case measure=>have:=ap.out;omega
        case rel=>exact⟨k+1,by go_num,by omega,⟨by omega⟩,⟨by rw[e.out];exact J.out⟩⟩
       ·have t2:(c !=0)=true:=bne_iff_ne.mpr Z;have e:=aK (HEX.out.trans (if_pos ⟨hkt,Z⟩));clear Z
        go_wp2_with fail
        refine(gauss_both.mac w.heap.size R g d cl cd bk bc bt (some ⟨g,0,none⟩) Ad t.1 t.2 cols wd k s.2.length c a2 J.out.hold HSE.out J.out.cb0 ae ac J.out.cbt hcb (by have:=HLE.out;omega) (by have:=HLE.out;omega) za).mono ?_;rintro e bd ⟨⟨v,rfl⟩,hq⟩;have ar:=aK (J.out.both hg hd hq.out.1 hq.out.2);clear hq J ae ac z4
        go_wp2_with fail
        go_roundg (M.length-(k+1))
        case measure=>have:=ap.out;omega
        case rel=>exact⟨k+1,by go_num,by omega,⟨by omega⟩,⟨by rw[e.out];exact ar.out⟩⟩
     ·obtain rfl:k=M.length:=by omega
      have z1:=HGI.out.cbt;have z2:=HGI.out.fbt
      go_wp2_with fail
      go_roundg (M.length-(s.2.length+1))
      case measure=>have:=HK.out;omega
      case rel=>
       refine⟨j+1,wr.heap.size,rfl,by go_num,by omega,⟨?_⟩,⟨?_⟩⟩
       ·rw[HHIT.out];simp;omega
       ·have hN:=HGI.out.next (s.2.length+1);rw[show((s.2.length+1:Nat):Int)=(s.2.length:Int)+1 from by omega]at hN
        rw[HHIT.out];simp only[List.length_append,List.length_cons,List.length_nil,Nat.zero_add];rw[HST.out,ai.out];exact hN
  ·have HE:=aK (red_full (M:=M) (D:=D) (j:=col) (by rw[ES.out];omega) (cols-col));rw[show col+(cols-col)=cols from by omega]at HE
   go_wp2_with fail
   go_ret
   refine⟨_,rfl,?_⟩;rw[HE.out,ES.out];exact⟨⟨I.out.hold,Kd.R_mono I.out.piv (fun _ _=>trivial),I.out.chg⟩⟩
theorem C_none{w:World}{n:Nat}{l:List Int}(h:Kd.C (Kd.int .u8) w none n l):l= []:=by
 have h1:=Kd.reads_of_C (enc:=Value.int .u8) (d:=(0:Int)) (h1:=fun _=>rfl) h;rcases Nat.eq_zero_or_pos n with hn|hn
 ·have:=h1.1;rw[hn]at this
  exact List.length_eq_zero_iff.1 this
 ·obtain⟨ad,ha,_⟩:=h1.2.2 hn
  cases ha
set_option maxHeartbeats 2000000 in
set_option maxRecDepth 100000 in
theorem bytes_Clone.calls(A:Option Addr)(c:Nat)(l:List Int)(w:World)(hr:Kd.C (Kd.int .u8) w A l.length l)(hc:l.length≤c)(hn:l.length≤1000000):
 Calls Tryd.prog 90 #[.slice A l.length c] w fun e w'=> ∃v:Value,e= .returned v∧Aside0 (Kd.R (Kd.int .u8) 5 w' w.heap.size (fun _=>True) v l∧Below w.heap.size w w'):=by
 have hq:=fun(w:World) (a:Option Addr) (n c n' c':Nat)=>Lib.run_eql_slice_nil (P:=Tryd.prog) w 22 5 a n c n' c' Tryd.underlying22
 cases A with
 |none=>
  obtain rfl:=C_none hr;clear hr
  go_enter Tryd.func90,Tryd.ntmps90
  go_wp2
  go_ret
  exact⟨_,rfl,⟨Kd.R_nil _ _ _ _ _,Below.refl _ _⟩⟩
 |some ad=>
  have HR:=aK hr;clear hr
  go_enter Tryd.func90,Tryd.ntmps90
  go_wp2_with (first|((with_reducible refine gate_dst (N:=5) rfl ?_);refine Kd.R_lit (Kd.int .u8) _ 5 ?hg (N:=5) ?hd (xs:=([]:List Int)) (inner:= []) (ok:=fun _=>True) (okp:=fun _=>True) ?hr ?hp (fun _ hk=>hk) trivial (Below.refl _ _) (Nat.le_refl _) zd ?_;(case hd=>rfl);(case hg=>rfl);(case hr=>first|(go_simp;done)|(go_simp;rfl));(case hp=>exact(Reps.none _ _));intro v1 w1 I G hg_ hnew_;clear hg_ hnew_;have J:=aK I;have D:=aK G;clear I G)|((with_reducible refine gate_builtin (b:= .append) (xs:= #[.tmp 5,.tmp 6]) rfl ?_);at_builtin;refine Kd.R_append_rows (Kd.int .u8) (w0:=w) w.heap.size rfl (.tmp 5) (.tmp 6) 22 5 (.int .u8 0) 1 rfl Tryd.underlying22 info5 rfl zc za v1 ([]:List Int) l _ _ _ (fun _=>True) (fun _=>False) rfl rfl ?aO ?aR (fun _ _ h=>h) (fun _ h=>h.elim) ?aF ?aB ?aS ?aL ?_;(case aR=>exact Kd.C_below HR.out D.out);(case aB=>exact D.out);(case aF=>exact(fun _ _=>trivial));(case aO=>exact J.out);(case aS=>exact D.out.size);(case aL=>simp;omega);intro v2 w2 ho hb hg hat;rw[List.nil_append]at ho;have HO:=aK ho;have HB:=aK hb;clear ho hb hg hat))
  go_ret
  exact⟨_,rfl,⟨HO.out,HB.out⟩⟩
def SlK:Kd (Option Addr×Nat×Nat):=Kd.scalar (fun p=>Value.slice p.1 p.2.1 p.2.2) (fun _=>rfl)
theorem sl_info:(Tryd.prog.info? 22).map (fun i=>(i.zero,i.size,i.bytes))=some (some (.slice none 0 0),1,24):=by kernel_rfl
theorem lst_of_R{w:World}{base:Nat}{ok:Nat→Prop}{A:Option Addr}{n c:Nat}{ps:List (Option Addr×Nat×Nat)}{M:List (List Int)}(h:SlK.R 22 w base ok (.slice A n c) ps)(hl:M.length=ps.length)(g0:Nat)
 (hr: ∀i,i<M.length→RowV w (Value.slice (ps.getD i (none,0,0)).1 (ps.getD i (none,0,0)).2.1 (ps.getD i (none,0,0)).2.2) (M.getD i [])): ∃g,(0<M.length→A=some ⟨g,0,none⟩∧base≤g∧ok g)∧(M.length=0→g=g0)∧Lst w g M∧n=M.length:=by
 obtain⟨hn,hc,hC⟩:=Kd.R_reads' h;rcases Nat.eq_zero_or_pos M.length with h0|h0
 ·exact⟨g0,fun e=>by omega,fun _=>rfl,⟨fun e=>by omega,fun i hi=>by omega,fun i hi=>by omega⟩,by omega⟩
 ·obtain⟨inner,ho⟩:=Kd.R_own h;have hbd:=h.1;rcases ho.2 with⟨h',hx⟩|⟨g',cap',cur,h',D,hh,hcur⟩
  ·injection h' with _ h2 _;omega
  ·injection h' with h1 h2 h3;subst h1;have h1:=Kd.reads_of_C (enc:=fun p:Option Addr×Nat×Nat=>Value.slice p.1 p.2.1 p.2.2) (d:=(none,0,0)) (h1:=fun _=>rfl) hC;refine⟨g',fun _=>⟨rfl,D,hbd g' zp⟩,fun e=>by omega,⟨fun _=>⟨_,hh⟩,fun i hi=>⟨_,?_,hr i hi⟩,fun i hi=>?_⟩,by omega⟩
   ·obtain⟨ad,ha,hcell⟩:=h1.2.2 za
    cases ha
    have:=hcell i za;rw[←this];unfold Addr.add;by_cases e:i=0
    ·subst e;rfl
    ·simp[e]
   ·simp[World.frozen?,hh]
theorem RowV.piece{w:World}{A:Option Addr}{n c:Nat}{l:List Int}(h:RowV w (.slice A n c) l)(lo len:Nat)(hle:lo+len≤l.length):RowV w (.slice (if len=0 then A else A.map (·.add lo)) len len) ((l.drop lo).take len):=by
 obtain⟨A',c',e,h2,h3,h4⟩:=h.out;injection e with e1 e2 e3;subst e1 e2 e3;have hlen:((l.drop lo).take len).length=len:=by simp;omega
 have h1:=Kd.reads_of_C (enc:=Value.int .u8) (d:=(0:Int)) (h1:=fun _=>rfl) h3;refine⟨_,len,by rw[hlen],by omega,Kd.C_of_reads (d:=(0:Int)) ⟨rfl,by rw[hlen];have:=h1.2.1;omega,fun hn=>?_⟩,fun ad ha=>?_⟩
 ·rw[hlen]at hn
  obtain⟨ad,ha,hcell⟩:=h1.2.2 za;refine⟨ad.add lo,by rw[if_neg za,ha];rfl,fun j hj=>?_⟩;rw[hlen]at hj
  have:=hcell (lo+j) za;rw[show(ad.add lo).add j=ad.add (lo+j)from by unfold Addr.add;by_cases a:lo=0<;>by_cases b:j=0<;>simp[a,b];all_goals omega];rw[this]
  congr 2
  rw[List.getD_eq_getElem?_getD,List.getD_eq_getElem?_getD,List.getElem?_take_of_lt za,List.getElem?_drop]
 ·by_cases e:len=0
  ·rw[if_pos e]at ha
   exact h4 ad ha
  ·rw[if_neg e]at ha
   obtain⟨D,G,rfl⟩:=Option.map_eq_some_iff.1 ha;have hb:(D.add lo).block=D.block:=by unfold Addr.add;split<;>rfl
   rw[hb];exact h4 D G
def rowsOf(cols rows:Nat)(l:List Int):List (List Int):=(List.range rows).map fun i=>(l.drop (i*cols)).take cols
def pieces(A:Option Addr)(cols k:Nat):List (Option Addr×Nat×Nat):=(List.range k).map fun i=>(if cols=0 then A else A.map (·.add (i*cols)),cols,cols)
theorem pieces_succ(A:Option Addr)(cols k:Nat):pieces A cols (k+1)=pieces A cols k++ [(if cols=0 then A else A.map (·.add (k*cols)),cols,cols)]:=by simp[pieces,List.range_succ]
theorem own_addr{α:Type}{D:Kd α}{e:Nat}{w:World}{base:Nat}{ok:Nat→Prop}{A:Option Addr}{n c b:Nat}{xs:List α}(h:D.R e w base ok (.slice A n c) xs)(hb:(Value.slice A n c).ownBlock=some b):A=some ⟨b,0,none⟩∧ ∃cells:Array Value,w.heap[b]? =some (.cells cells e (0,0)):=by
 obtain⟨inner,ho⟩:=Kd.R_own h;rcases ho.2 with⟨h',hx⟩|⟨g',cap',cur,h',G,hh,hcur⟩
 ·injection h' with h1 _ _;subst h1
  cases hb
 ·injection h' with h1 h2 h3;subst h1;simp[Value.ownBlock]at hb
  subst hb;exact⟨rfl,_,hh⟩
theorem wrap_small{n:Int}(h0:0≤n)(h1:n≤1000000000):wrap64 n=n:=by unfold wrap64;omega
theorem iwrap_small{n:Int}(h0:0≤n)(h1:n≤1000000000):IntKind.i64.wrap n=n:=by rw[i64_w,wrap_small h0 h1]
structure OfS (w:World) (bm R d rows cols cd c i:Nat) (A Ad:Option Addr) (vl:Value) (l:List Int) (cdd:Nat) (wr:World):Prop where
 hm:wr.heap[bm]? =some (.cells #[.int .i64 rows,.int .i64 cols,.slice A l.length c] 24 (0,0))
 hR:wr.heap[R]? =some (.cells #[vl,.slice (some ⟨d,0,none⟩) rows cd,.int .i64 cols] 108 (0,0))
 hl:SlK.R 22 wr w.heap.size (fun k=>k≠R∧k≠bm∧k≠d) vl (pieces Ad cols i)
 hd:SlK.R 22 wr w.heap.size (fun k=>k=d) (.slice (some ⟨d,0,none⟩) rows cd) (List.replicate rows (none,0,0))
 data:RowV wr (.slice Ad l.length cdd) l
 below:Below w.heap.size w wr
 n1:w.heap.size≤R
 n2:w.heap.size≤bm
 n3:w.heap.size≤d
theorem OfS.next{w:World}{bm R d rows cols cd c i:Nat}{A Ad:Option Addr}{vl:Value}{l:List Int}{cdd:Nat}{wr w1:World}(h:OfS w bm R d rows cols cd c i A Ad vl l cdd wr)(hb:Below wr.heap.size wr w1):OfS w bm R d rows cols cd c i A Ad vl l cdd w1:=
 ⟨(hb.block bm (lt_of_get h.hm)).trans h.hm,(hb.block R (lt_of_get h.hR)).trans h.hR,Kd.R_below h.hl hb,Kd.R_below h.hd hb,h.data.keep (KeepB.below hb),below_step h.below hb,h.n1,h.n2,h.n3⟩
theorem OfS.app{w:World}{bm R d rows cols cd c i:Nat}{A Ad:Option Addr}{vl v1:Value}{l:List Int}{cdd:Nat}{wr w1:World}(h:OfS w bm R d rows cols cd c i A Ad vl l cdd wr)(hg:wr.grownBy w1 vl.ownBlock)(hb:Below w.heap.size wr w1)(ho:SlK.R 22 w1 w.heap.size (fun k=>k≠R∧k≠bm∧k≠d) v1 (pieces Ad cols (i+1))):
 OfS w bm R d rows cols cd c (i+1) A Ad v1 l cdd (w1.setCell ⟨R,0,none⟩ v1):=by
 have hv: ∀k,vl.ownBlock=some k→k≠R∧k≠bm∧k≠d:=fun k hk=>h.hl.1 k hk;have hty: ∀k,vl.ownBlock=some k→ ∃cells:Array Value,wr.heap[k]? =some (.cells cells 22 (0,0)):=fun k hk=>by
  obtain⟨h1,h2,_,q,hq,c,hc⟩:=(Kd.R_bound h.hl).1 k hk;have:q=22:=(List.mem_cons.1 hq).elim id (fun hx=>by cases hx);rw[←this];exact⟨c,hc⟩
 have blk: ∀b,b<wr.heap.size→(∀k,vl.ownBlock=some k→b≠k)→w1.heap[b]? =wr.heap[b]? :=fun b hb hne=>hg.block b hb (by
  cases D:vl.ownBlock with
  |none=>simp
  |some k=>simpa using hne k D)
 have e1:=(blk bm (lt_of_get h.hm) (fun k hk e=>(hv k hk).2.1 e.symm)).trans h.hm;have e2:=(blk R (lt_of_get h.hR) (fun k hk e=>(hv k hk).1 e.symm)).trans h.hR;have kb:KeepB wr w1:=fun b cells hbb=>blk b (lt_of_get hbb) (fun k hk e=>by
  obtain⟨c,hc⟩:=hty k hk;subst e;rw[hbb]at hc
  injection hc with hc;injection hc with _ hc;exact absurd hc zc)
 have G:KeepB w1 (w1.setCell ⟨R,0,none⟩ v1):=KeepB.grown (grown_set w1 R 0 v1) e2 zc;have n1:=h.n1;refine⟨?_,?_,Kd.R_far ho (fun k hk=>hk.1) v1,?_,(h.data.keep kb).keep G,(Below.trans h.below (hb)).setCell n1 _,h.n1,h.n2,h.n3⟩
 ·rw[Below.heap_setCell _ _ _ bm (by rintro rfl;rw[e1]at e2;injection e2 with e2;injection e2 with _ e2;exact absurd e2 zc)];exact e1
 ·exact blk_put e2 0 v1 rfl
 ·have hdR:d≠R:=by
   rintro rfl;obtain⟨q,hq,cc,hcc⟩:=((Kd.R_bound h.hd).1 d zp).2.2.2;have:q=22:=(List.mem_cons.1 hq).elim id (fun hx=>by cases hx);subst this;rw[h.hR]at hcc
   injection hcc with hcc;injection hcc with _ hcc;exact absurd hcc zc
  refine Kd.R_far (Kd.R_step h.hd (fun k hk hlt=>blk k hlt (fun k' hk' e=>?_))) (fun k hk=>by rw[hk];exact hdR) v1;subst e;exact(hv k hk').2.2 hk
theorem rowsOf_length(cols rows:Nat)(l:List Int):(rowsOf cols rows l).length=rows:=by simp[rowsOf]
theorem rowsOf_get{cols rows:Nat}{l:List Int}{i:Nat}(hi:i<rows):(rowsOf cols rows l).getD i [] =(l.drop (i*cols)).take cols:=by
 unfold rowsOf;rw[List.getD_eq_getElem?_getD,List.getElem?_map,List.getElem?_range hi];rfl
theorem OfS.hold{w:World}{bm R d rows cols cd c:Nat}{A Ad:Option Addr}{vl:Value}{l:List Int}{cdd:Nat}{wr:World}(h:OfS w bm R d rows cols cd c rows A Ad vl l cdd wr)(hl:l.length=rows*cols):
 ∃g cl Al,Hold wr R g d cl cd Al (some ⟨d,0,none⟩) (rowsOf cols rows l) (List.replicate rows []) cols∧w.heap.size≤g∧g<wr.heap.size∧d<wr.heap.size∧rows≤cl∧rows≤cd:=by
 obtain⟨Al,cl,ev⟩:=Kd.R_slice h.hl;subst ev;have hpl:(pieces Ad cols rows).length=rows:=by simp[pieces]
 obtain⟨g,g1,g2,g3,g4⟩:=lst_of_R (M:=rowsOf cols rows l) h.hl (by rw[hpl,rowsOf_length]) bm (fun i hi=>by
  rw[rowsOf_length]at hi
  rw[rowsOf_get hi];have hle:i*cols+cols≤l.length:=by rw[hl,←Nat.succ_mul];exact Nat.mul_le_mul_right _ hi
  have:=h.data.piece (i*cols) cols hle;have e:(pieces Ad cols rows).getD i (none,0,0)=(if cols=0 then Ad else Ad.map (·.add (i*cols)),cols,cols):=by
   unfold pieces;rw[List.getD_eq_getElem?_getD,List.getElem?_map,List.getElem?_range hi];rfl
  rw[e];exact this)
 obtain⟨q,q1,q2,q3,q4⟩:=lst_of_R (M:=List.replicate rows []) h.hd zd d (fun i hi=>by
  rw[List.length_replicate]at hi
  have e:(List.replicate rows ((none:Option Addr),0,0)).getD i (none,0,0)=(none,0,0):=by
   rw[List.getD_eq_getElem?_getD,List.getElem?_replicate_of_lt hi];rfl
  have e2:(List.replicate rows ([]:List Int)).getD i [] = []:=by
   rw[List.getD_eq_getElem?_getD,List.getElem?_replicate_of_lt hi];rfl
  rw[e,e2];exact RowV.nil _)
 obtain⟨d1,d2,d3,qq,dq,dc,dcc⟩:=(Kd.R_bound h.hd).1 d zp;obtain rfl:qq=22:=(List.mem_cons.1 dq).elim id (fun hx=>by cases hx);have hqd:q=d:=by
  rcases Nat.eq_zero_or_pos rows with h0|h0
  ·exact q2 (by simp[h0])
  ·have:=(q1 (by simpa using h0)).1;injection this with this;injection this with this;exact this.symm
 subst hqd;have hne: ∀(a b ta tb:Nat) (ca cb:Array Value),wr.heap[a]? =some (.cells ca ta (0,0))→wr.heap[b]? =some (.cells cb tb (0,0))→ta≠tb→a≠b:=fun a b ta tb ca cb h1 h2 hn e=>by
  subst e;rw[h1]at h2
  injection h2 with h2;injection h2 with _ h2;exact hn h2
 have hg:g≠q∧R≠g∧w.heap.size≤g∧g<wr.heap.size:=by
  rcases Nat.eq_zero_or_pos rows with h0|h0
  ·rw[g2 zai];exact⟨hne _ _ _ _ _ _ h.hm dcc zc,hne _ _ _ _ _ _ h.hR h.hm zc,h.n2,lt_of_get h.hm⟩
  ·obtain⟨_,k2,k3⟩:=g1 zai;exact⟨k3.2.2,fun e=>k3.1 e.symm,k2,g3.lt zai⟩
 refine⟨g,cl,Al,⟨?_,?_,(blk_cell h.hR 2).trans rfl,fun h0=>(g1 h0).1,fun _=>rfl,g3,q3,hg.1,hg.2.1,hne _ _ _ _ _ _ h.hR dcc zc⟩,hg.2.2.1,hg.2.2.2,d3,by have:=(Kd.R_reads' h.hl).2.1;omega,(Kd.R_reads' h.hd).2.1⟩
 ·rw[rowsOf_length];have:=(blk_cell h.hR 0).trans rfl;rw[hpl]at this
  exact this
 ·rw[List.length_replicate];exact(blk_cell h.hR 1).trans rfl
set_option maxHeartbeats 4000000 in
set_option maxRecDepth 100000 in
theorem gauss_of.calls(rows cols:Nat)(A:Option Addr)(c:Nat)(l:List Int)(w:World)(hr:Kd.C (Kd.int .u8) w A l.length l)(hc:l.length≤c)(hl:l.length=rows*cols)(Y:rows≤64∧cols≤64):
 Calls Tryd.prog 82 #[.agg #[.int .i64 rows,.int .i64 cols,.slice A l.length c]] w fun e w'=> ∃R,e= .returned (.pointer (some ⟨R,0,none⟩))∧
  Aside0 (∃g d cl cd Al Ad,Hold w' R g d cl cd Al Ad (rowsOf cols rows l) (List.replicate rows []) cols∧Below w.heap.size w w'∧w.heap.size≤g∧w.heap.size≤d∧w.heap.size≤R∧g<w'.heap.size∧d<w'.heap.size∧rows≤cl∧rows≤cd∧ ∃cells:Array Value,w'.heap[R]? =some (.cells cells 108 (0,0))):=by
 have hll:l.length≤4096:=by rw[hl];exact Nat.mul_le_mul Y.1 Y.2
 have HR:=aK hr;have HL:=aK hl;obtain⟨h64a,h64b⟩:=Y;clear hr hl
 go_enter Tryd.func82,Tryd.ntmps82
 go_wp2_with fail
 refine start_ (n:=8) (S:=fun w'=>w'.cell? ⟨w.heap.size,0,none⟩=some (.int .i64 rows)∧w'.cell? ⟨w.heap.size,1,none⟩=some (.int .i64 cols)) (ds:= []) (mB 8 0) zb rfl rfl ⟨(blk_cell (blk_new w (.cells #[.int .i64 rows,.int .i64 cols,.slice A l.length c] 24)) 0).trans rfl,(blk_cell (blk_new w (.cells #[.int .i64 rows,.int .i64 cols,.slice A l.length c] 24)) 1).trans rfl⟩ (fun hHeld=>?_);have hm:=blk_new w (.cells #[.int .i64 rows,.int .i64 cols,.slice A l.length c] 24);have al:=below_drew (below_alloc (Below.refl w.heap.size w) (.cells #[.int .i64 rows,.int .i64 cols,.slice A l.length c] 24));have af:(w.alloc (.cells #[.int .i64 rows,.int .i64 cols,.slice A l.length c] 24)).drew.heap[w.heap.size]? =some (.cells #[.int .i64 rows,.int .i64 cols,.slice A l.length c] 24):=hm;have O:(w.alloc (.cells #[.int .i64 rows,.int .i64 cols,.slice A l.length c] 24)).drew.heap.size=w.heap.size+1:=by simp
 clear hm;generalize(w.alloc (.cells #[.int .i64 rows,.int .i64 cols,.slice A l.length c] 24)).drew=w1 at*;have ar:=aK O;clear O;refine zpu 0 (some 8) (mB 8 1) ?_;refine zpu 2 (some 10) (mB 8 5) ?_;refine ztk2 1 (some 9) (mB 8 7) hHeld ?_;refine ztk2 3 (some 11) (mB 8 15) hHeld ?_;refine zon 4 (some 12) (mB 8 31) fun K hK=>?_;refine Kd.R_make_step SlK w1.heap.size 22 ze (N:=12) rfl 106 _ _ rfl (rows:Int) rfl rfl Tryd.underlying106 (.slice none 0 0) 24 sl_info rfl zc za (none,0,0) (ok:=fun k=>w1.heap.size≤k) (okp:=fun _=>False) rfl (fun _ h=>h.elim) (Nat.le_refl _) za za (Below.refl _ _) (Nat.le_refl _) ?_;intro va w2 ho ab ay hnew;rw[Int.toNat_natCast]at ho
 obtain⟨Av,cd,ev⟩:=Kd.R_slice ho;rw[List.length_replicate]at ev
 subst ev;obtain⟨d,ao,a6⟩:=hnew;obtain⟨hAv,hdc⟩:=own_addr ho ao;subst hAv;have HO:=aK (⟨fun k hk=>by simpa[Value.ownBlock]using hk.symm,ho.2⟩:SlK.R 22 w2 w1.heap.size (fun k=>k=d) (.slice (some ⟨d,0,none⟩) rows cd) (List.replicate rows (none,0,0)));have U:=aK ab;clear ho ay ao hdc;refine hK.out _ _ ⟨pw_cell_below ab hHeld.1,pw_cell_below ab hHeld.2⟩ (fun hHeld=>?_);clear hK K;refine znm (some 12) ?_;refine zpu 5 (some 13) (mB 8 63) ?_;refine zon 6 (some 14) (mB 8 127) fun K hK=>?_;refine value_ (w1:=?_) (v:=?_) ze rfl ?_ ?_;rotate_left 2
 ·go_simp;constructor
  ·rfl
  ·rfl
 refine hK.out _ _ ⟨pw_cell_below (below_alloc (Below.refl _ _) _) hHeld.1,pw_cell_below (below_alloc (Below.refl _ _) _) hHeld.2⟩ (fun hHeld=>?_);clear hK K;refine znm (some 14) ?_;refine zpu 7 (some 3) (mB 8 255) ?_;refine done_ zb ?_;clear hHeld;have a7:=U.out.size;have O:=ar.out;have a5:w.heap.size≤w1.heap.size:=by omega
 have ac:Below w1.heap.size w1 (w2.alloc (.cells #[.slice none 0 0,.slice (some ⟨d,0,none⟩) rows cd,.int .i64 cols] 108)):=below_alloc U.out _;have Z:=blk_new w2 (.cells #[.slice none 0 0,.slice (some ⟨d,0,none⟩) rows cd,.int .i64 cols] 108);have ah:=aK (Kd.R_lower (Kd.R_alloc HO.out (.cells #[.slice none 0 0,.slice (some ⟨d,0,none⟩) rows cd,.int .i64 cols] 108)) (by omega:w.heap.size≤w1.heap.size));have L:=(ac.block _ (lt_of_get af)).trans af;have X:=aK (below_step al ac);clear HO U ac al af O;generalize w2.alloc (.cells #[.slice none 0 0,.slice (some ⟨d,0,none⟩) rows cd,.int .i64 cols] 108)=w3 at*;generalize w2.heap.size=R at*;have z1:w3.cell? ⟨w.heap.size,2,none⟩=some (.slice A l.length c):=(blk_cell L 2).trans rfl
 go_wp2_with fail
 refine(bytes_Clone.calls A c l _ (Kd.C_below HR.out X.out) hc za).mono ?_;rintro e w4 ⟨v,rfl,hq⟩;obtain⟨Ad,cdd,ev⟩:=Kd.R_slice hq.out.1;subst ev;have I:=hq.out.2;have HOF:Aside0 (OfS w w.heap.size R d rows cols cd c 0 A Ad (.slice none 0 0) l cdd w4):=⟨(I.block _ (lt_of_get L)).trans L,(I.block _ (lt_of_get Z)).trans Z,Kd.R_nil _ _ _ _ _,Kd.R_below ah.out I,RowV.of_R hq.out.1,below_step X.out I,by omega,Nat.le_refl _,by omega⟩
 clear hq I z1 L Z ah X;have z1:w4.cell? ⟨w.heap.size,0,none⟩=some (.int .i64 rows):=(blk_cell HOF.out.hm 0).trans rfl
 go_wp2_with fail
 clear z1
 go_loopg [20] rows (fun kq az wr=> ∃(i:Nat) (vl:Value),az= .int .i64 i∧i≤rows∧Aside0 (kq+i=rows)∧Aside0 (OfS w w.heap.size R d rows cols cd c i A Ad vl l cdd wr))
 case atStart=>exact⟨0,_,rfl,Nat.zero_le _,⟨rfl⟩,HOF⟩
 case round=>
  obtain⟨i,vl,rfl,hi,HK,HO⟩:=hrel;clear HOF;by_cases hlt:i<rows
  ·have tst:decide ((i:Int)<(rows:Int))=true:=by simpa using hlt
   go_wp2_with fail
   obtain⟨f,hf⟩: ∃f:Nat,f=i*cols:=⟨_,rfl⟩
   obtain⟨f2,J⟩: ∃f2:Nat,f2=(i+1)*cols:=⟨_,rfl⟩
   have hfl:f2≤l.length:=by rw[HL.out,J];exact Nat.mul_le_mul_right _ hlt
   have hff:f2=f+cols:=by rw[J,hf,Nat.add_mul,Nat.one_mul]
   have e1:((i:Int)*(cols:Int))=(f:Int):=by rw[hf];simp
   have e2:(((i:Int)+1)*(cols:Int))=(f2:Int):=by rw[J];simp
   have w1a:IntKind.i64.wrap ((i:Int)*(cols:Int))=(f:Int):=by rw[e1];exact iwrap_small za za
   have w2a:IntKind.i64.wrap (((i:Int)+1)*(cols:Int))=(f2:Int):=by rw[e2];exact iwrap_small za za
   have w1b:wrap64 ((i:Int)*(cols:Int))=(f:Int):=by rw[e1];exact wrap_small za za
   have w2b:wrap64 (((i:Int)+1)*(cols:Int))=(f2:Int):=by rw[e2];exact wrap_small za za
   have w3a:IntKind.i64.wrap ((i:Int)+1)=(i:Int)+1:=iwrap_small za za;have HF:=aK hf;have HFF:=aK hff;clear hf J hff e1 e2;refine start_ (n:=11) (S:=fun w'=>w'.cell? ⟨w.heap.size,1,none⟩=some (.int .i64 cols)) (ds:= []) (mB 11 0) zb rfl rfl ((blk_cell HO.out.hm 1).trans rfl) (fun hHeld=>?_);have G:=aK (HO.out.next (below_drew (Below.refl _ _)));clear HO;generalize wr.drew=w5 at*;refine zpu 0 (some 23) (mB 11 1) ?_;refine zpu 1 (some 24) (mB 11 3) ?_;refine zpu 4 (some 27) (mB 11 19) ?_;refine zpu 5 (some 28) (mB 11 51) ?_;refine zpu 6 (some 29) (mB 11 115) ?_;refine ztk1 2 (some 25) (mB 11 119) hHeld ?_;refine zpu 3 (some 26) (mB 11 127) ?_;refine zpu 9 (some 6) (mB 11 639) ?_;refine ztk1 7 (some 30) (mB 11 767) hHeld ?_;refine zpu 8 (some 31) (mB 11 1023) ?_;refine zpu 10 (some 7) (mB 11 2047) ?_;refine done_ zb ?_;clear hHeld w1a w2a w1b w2b w3a
   go_wp2_with fail
   have hcd:=G.out.data;obtain⟨A',c',ea,hcc,_,_⟩:=hcd.out;injection ea with au av aw;subst au aw;clear av;have hfi:(0:Int)≤(f:Int):=by omega
   have a0:(f:Int)≤(f2:Int):=by have:=HFF.out;omega
   have hf2c:(f2:Int)≤(cdd:Int):=by omega
   have hRc:=(blk_cell G.out.hR 0).trans rfl;have hfz:w5.frozen? ⟨R,0,none⟩=false:=blk_frozen G.out.hR 0;have hown:=G.out.hl;clear hcd;refine start_ (n:=15) (S:=fun w'=>w'.cell? ⟨R,0,none⟩=some vl) (ds:= [14]) (mB 15 0) zb rfl rfl (hRc) (fun hHeld=>?_);have D:=aK (G.out.next (below_drew (Below.refl _ _)));clear G hRc hfz hown;generalize w5.drew=w6 at*;refine zpu 0 (some 32) (mB 15 1) ?_;refine zpu 1 (some 33) (mB 15 3) ?_;refine zpu 2 (some 34) (mB 15 7) ?_;refine zpu 3 (some 35) (mB 15 15) ?_;refine zpu 5 (some 37) (mB 15 47) ?_;refine zpu 6 (some 38) (mB 15 111) ?_;refine zpu 7 (some 39) (mB 15 239) ?_;refine zpu 8 (some 40) (mB 15 495) ?_;refine zpu 9 (some 41) (mB 15 1007) ?_;refine ztk1 4 (some 36) (mB 15 1023) hHeld ?_;refine zon 10 (some 42) (mB 15 2047) fun K hK=>?_;refine value_ (w1:=?_) (v:=?_) ze rfl ?_ ?_;rotate_left 2
   ·go_simp;constructor
    ·rfl
    ·rfl
   refine hK.out _ _ (pw_cell_below (below_alloc (Below.refl _ _) _) hHeld) (fun hHeld=>?_);clear hK K;refine znm (some 42) ?_;refine zon 11 (some 43) (mB 15 4095) fun K hK=>?_;refine Kd.R_append_step SlK (w0:=w6) w.heap.size ze (.tmp 36) (.tmp 42) 106 22 (.slice none 0 0) 24 rfl Tryd.underlying106 sl_info rfl zc za vl (pieces Ad cols i) (if f2=f then Ad else Option.map (fun x=>x.add f) Ad,f2-f,f2-f) [.slice (if f2=f then Ad else Option.map (fun x=>x.add f) Ad) (f2-f) (f2-f)] (fun k=>k≠R∧k≠w.heap.size∧k≠d) (fun _=>False) rfl rfl rfl (fun _ h=>h.elim) ?aF D.out.hl (Below.refl _ _) D.out.below.size ?aL ?_
   ·intro k hk;have a1:=lt_of_get D.out.hR;have a2:=lt_of_get D.out.hm;have a3:=D.out.hd.1;obtain⟨_,_,a4,_⟩:=(Kd.R_bound D.out.hd).1 d zp;omega
   ·simp[pieces];omega
   intro v1 w7 ho am ae ak;have hpc:(if f2=f then Ad else Option.map (fun x=>x.add f) Ad,f2-f,f2-f)=(if cols=0 then Ad else Ad.map (·.add (i*cols)),cols,cols):=by
    have h1:=HFF.out;have h2:=HF.out;rw[show f2-f=cols from by omega,←h2];by_cases h0:cols=0
    ·rw[if_pos h0,if_pos za]
    ·rw[if_neg h0,if_neg za]
   rw[hpc,←pieces_succ]at ho
   obtain⟨A1,c1,ax⟩:=Kd.R_slice ho;subst ax;have aj:=aK ho;have ag:=aK am;have ai:=aK ae;have aa:w7.heap[R]? =some (.cells #[vl,.slice (some ⟨d,0,none⟩) rows cd,.int .i64 cols] 108):=(ae.block R (lt_of_get D.out.hR) (by
    intro e;have:=D.out.hl.1 R e.symm;exact this.1 rfl)).trans D.out.hR
   have ap:=blk_frozen aa 0;have an:w7.cell? ⟨R,0,none⟩=some vl:=(blk_cell aa 0).trans rfl;clear ho am ae ak hpc aa;refine hK.out _ _ (an) (fun hHeld=>?_);clear hK K;refine znm (some 43) ?_;refine zpu 12 (some 44) (mB 15 8191) ?_;refine zpu 13 (some 45) (mB 15 16383) ?_;refine zln 14 (none) (mB 15 32767) fun K hK=>?_;refine zsk ?_;refine hK.out _ _ ?_;clear hK K;refine done_ zb ?_;clear hHeld;have aq:=aK (D.out.app ai.out ag.out aj.out);clear D ai ag aj an ap
   go_wp2_with fail
   all_goals
    go_roundg (rows-(i+1))
    case measure=>have:=HK.out;omega
    case rel=>exact⟨i+1,_,by go_num,by omega,⟨by omega⟩,aq⟩
  ·obtain rfl:i=rows:=by omega
   go_wp2_with fail
   go_ret
   obtain⟨g,cl,Al,h1,h2,h3,h4,h5,h6⟩:=HO.out.hold HL.out;exact⟨R,rfl,⟨g,d,cl,cd,Al,_,h1,HO.out.below,h2,HO.out.n3,HO.out.n1,h3,h4,h5,h6,_,HO.out.hR⟩⟩
def u8of(l:List Int):List UInt8:=l.map fun x=>UInt8.ofNat x.toNat
theorem u8of_get{l:List Int}(h:bytesB l=true){i:Nat}{x:UInt8}(hx:(u8of l)[i]? =some x):i<l.length∧((x.toNat:Nat):Int)=l.getD i 0:=by
 unfold u8of at hx;rw[List.getElem?_map]at hx
 obtain⟨y,hy,rfl⟩:=Option.map_eq_some_iff.1 hx;have hi:=(List.getElem?_eq_some_iff.1 hy).1;have hr:=bytesB_at h hi;rw[List.getD_eq_getElem?_getD,hy]at hr⊢
 refine⟨hi,?_⟩;simp only[Option.getD_some]at hr⊢;rw[UInt8.toNat_ofNat'];omega
theorem u8of_back{l:List Int}(h:bytesB l=true):(u8of l).map (fun x=>((x.toNat:Nat):Int))=l:=by
 apply List.ext_getElem (by simp[u8of]);intro i h1 h2;have hi:i<(u8of l).length:=by simpa[u8of]using h2
 obtain⟨_,e⟩:=u8of_get h (List.getElem?_eq_getElem hi);rw[List.getElem_map,e,List.getD_eq_getElem?_getD,List.getElem?_eq_getElem h2];rfl
theorem holds_of_row{w:World}{v:Value}{l:List Int}(h:RowV w v l)(hb:bytesB l=true):Lib.HoldsBytes w v (u8of l):=by
 obtain⟨A,c,rfl,hc,hC,_⟩:=h.out;have h1:=Kd.reads_of_C (enc:=Value.int .u8) (d:=(0:Int)) (h1:=fun _=>rfl) hC;refine⟨A,c,by simp[u8of],fun e=>?_,fun a ha i x hx=>?_⟩
 ·subst e;rw[C_none hC];rfl
 ·obtain⟨hi,e⟩:=u8of_get hb hx;obtain⟨ad,hA,hcell⟩:=h1.2.2 za;rw[ha]at hA
  cases hA
  rw[hcell i hi,e]
theorem V_of_fresh{w w':World}{v:Value}{l:List UInt8}(h:Lib.FreshBytes w.heap.size w' v l){L:List Int}(hL:l.map (fun x=>((x.toNat:Nat):Int))=L):Kd.V (Kd.int .u8) 5 w' w.heap.size (fun k_=>(w.heap.size≤k_)) v L:=by
 obtain⟨g,cap,zs,rfl,hg,hlc,hcm,hz,hzr,hbo,hcell,hfr⟩:=h;have hlen:L.length=l.length:=by rw[←hL];simp
 rw[←hlen]at hlc hbo⊢
 refine Kd.V_mk hlc (fun W' hW=>?_);refine Kd.C_of_reads (d:=(0:Int)) ⟨rfl,by unfold maxLen at hcm;omega,fun hn=>⟨⟨g,0,none⟩,rfl,fun j hj=>?_⟩⟩;have h1:=hcell j za;have hgl:=World.block_lt_of_cell? _ _ h1;have he:zs.getD j 0=L.getD j 0:=by
  rw[←hL,←hbo];have D:j<(zs.take L.length).length:=by simp;omega
  have hzj:=hzr (zs[j]' za) (List.getElem_mem _);simp only[Lib.bytesOf,List.getD_eq_getElem?_getD,List.getElem?_map,List.getElem?_take_of_lt hj,List.getElem?_eq_getElem (by omega:j<zs.length),Option.map_some,Option.getD_some]
  first
   |(rw[UInt8.toNat_ofNat'];omega)
   |(simp;omega)
 rw[←he,←h1];have ha:(⟨g,0,none⟩:Addr).add j=⟨g,j,none⟩:=by unfold Addr.add;by_cases e:j=0<;>simp[e]
 rw[ha];exact cell_same (p:=⟨g,j,none⟩) (hW g hg hgl)
theorem join_flat: ∀ls:List (List UInt8),Lib.join ls [] =ls.flatten
 | []=>rfl
 |x::r=>by
  rw[Lib.join_cons];simp[Lib.joinTail]
theorem lens_le{M:List (List Int)}{n:Nat}(h: ∀i,i<M.length→(M.getD i []).length=n):Lib.lens (M.map u8of)=M.length*n:=by
 unfold Lib.lens;rw[List.map_map];have:M.map ((fun x:List UInt8=>x.length) ∘ u8of)=List.replicate M.length n:=by
  apply List.ext_getElem zd;intro i h1 h2;have hi:i<M.length:=by simpa using h1
  have:=h i hi;rw[List.getD_eq_getElem?_getD,List.getElem?_eq_getElem hi]at this
  simpa[u8of]using this
 rw[this,List.sum_replicate_nat]
theorem bytes_Join.calls(g cl cols:Nat)(Al:Option Addr)(M:List (List Int))(w:World)(hA:0<M.length→Al=some ⟨g,0,none⟩)(hL:Lst w g M)(hB:rowsB M=true)(he: ∀i,i<M.length→(M.getD i []).length=cols)(hs:M.length≤64∧cols≤64)(hcl:M.length≤cl):
 Calls Tryd.prog 98 #[.slice Al M.length cl,.slice none 0 0] w fun e w'=> ∃v,e= .returned v∧Aside0 (Kd.V (Kd.int .u8) 5 w' w.heap.size (fun k_=>(w.heap.size≤k_)) v M.flatten∧Below w.heap.size w w'):=by
 match M,hA,hL,hB,he,hs,hcl with
 | [],hA,hL,hB,he,hs,hcl=>
   refine(Tryd.bytes_Join_none Al cl _ w).mono ?_;rintro e w' ⟨rfl,rfl⟩;refine⟨_,rfl,⟨?_,below_alloc (Below.refl _ _) _⟩⟩;exact Kd.V_mk (xs:= []) (Nat.le_refl _) (fun W' _=>Kd.C_of_reads (d:=(0:Int)) ⟨rfl,Nat.zero_le _,fun hn=>absurd hn (Nat.lt_irrefl _)⟩)
 | [l0],hA,hL,hB,he,hs,hcl=>
   have hAl:=hA zd;subst hAl;obtain⟨v,h1,h2⟩:=hL.row 0 zd;have G:bytesB l0=true:=rowsB_at hB 0;have I:l0.length=cols:=he 0 zd;have h2':RowV w v l0:=h2;rcases Nat.eq_zero_or_pos cols with h0|h0
   ·obtain⟨A,c,rfl,hc,hC,_⟩:=h2'.out;obtain rfl:l0= []:=List.length_eq_zero_iff.1 za;refine(Tryd.bytes_Join_one_empty g 0 cl A c _ w h1).mono ?_;rintro e w' ⟨rfl,rfl⟩;exact⟨_,rfl,⟨Kd.V_nil _ _ _ _ _,Below.refl _ _⟩⟩
   ·obtain⟨A,c,rfl,hc,hC,_⟩:=h2'.out;obtain⟨p,cap,ev,hn,hcells⟩:=holds_of_row h2' G;injection ev with e1 e2 e3;subst e1 e3
    cases A with
    |none=>
     have:=C_none hC;subst this;simp at I;omega
    |some ad=>
     have h1':w.cell? ⟨g,0,none⟩=some (.slice (some ad) (u8of l0).length c):=by rw[h1];simp[u8of]
     refine(Tryd.bytes_Join_one g 0 cl ad c (u8of l0) _ w h1' (hcells ad rfl) (by simp[u8of];omega) (by simp[u8of];omega)).mono ?_;rintro e w' ⟨v',rfl,hf,hb⟩;refine⟨_,rfl,⟨V_of_fresh hf ?_,hb⟩⟩;rw[u8of_back G];simp
 |l0::l1::r,hA,hL,hB,he,hs,hcl=>
  have hAl:=hA zd;subst hAl;generalize hM:l0::l1::r=M at*;have hlen:2≤M.length:=by rw[←hM];simp
  have hex: ∀i,∃v:Value,i<M.length→w.cell? ⟨g,i,none⟩=some v∧RowV w v (M.getD i []):=fun i=>by
   by_cases hi:i<M.length
   ·obtain⟨v,h⟩:=hL.row i hi;exact⟨v,fun _=>h⟩
   ·exact⟨undef,fun h=>absurd h hi⟩
  obtain⟨vf,hvf⟩:=Classical.axiomOfChoice hex;have hP:Lib.PartsAt w ⟨g,0,none⟩ ((List.range M.length).map vf) (M.map u8of):=by
   refine⟨by simp,fun i v hv=>?_,fun i v l hv hl=>?_⟩
   ·rw[List.getElem?_map]at hv
    obtain⟨j,hj,rfl⟩:=Option.map_eq_some_iff.1 hv;obtain⟨hjl,D⟩:=List.getElem?_eq_some_iff.1 hj;rw[List.length_range]at hjl
    rw[List.getElem_range]at D
    subst D;have ha:(⟨g,0,none⟩:Addr).add i=⟨g,i,none⟩:=by unfold Addr.add;by_cases e:i=0<;>simp[e]
    rw[ha];exact(hvf i hjl).1
   ·rw[List.getElem?_map]at hv
    obtain⟨j,hj,rfl⟩:=Option.map_eq_some_iff.1 hv;obtain⟨hjl,D⟩:=List.getElem?_eq_some_iff.1 hj;rw[List.length_range]at hjl
    rw[List.getElem_range]at D
    subst D;rw[List.getElem?_map,List.getElem?_eq_getElem hjl]at hl
    have hl':u8of M[i] =l:=by simpa using hl
    have hr:=(hvf i hjl).2;have hg:M.getD i [] =M[i]:=by rw[List.getD_eq_getElem?_getD,List.getElem?_eq_getElem hjl];rfl
    have hb:=rowsB_at hB i;rw[hg]at hr hb
    rw[←hl'];exact holds_of_row hr hb
  have hll:=lens_le he;have hmul:M.length*cols≤64*64:=Nat.mul_le_mul hs.1 hs.2;refine(Tryd.bytes_Join_many g 0 M.length cl _ (M.map u8of) (.slice none 0 0) [] w zd hlen hP hcl ⟨none,0,rfl,fun _=>rfl,fun a ha=>by cases ha⟩ za (by rw[hll];simp;omega)).mono ?_;rintro e w' ⟨v',rfl,hf,hb⟩;refine⟨_,rfl,⟨V_of_fresh hf ?_,hb⟩⟩;rw[join_flat,List.map_flatten,List.map_map]
  congr 1
  apply List.ext_getElem zd;intro i h1 h2;have hb:=rowsB_at hB i;rw[List.getD_eq_getElem?_getD,List.getElem?_eq_getElem h2]at hb
  rw[List.getElem_map];exact u8of_back hb
structure Half (w:World) (R g cl:Nat) (Al:Option Addr) (M:List (List Int)) (cols:Nat):Prop where
 head:w.cell? ⟨R,0,none⟩=some (.slice Al M.length cl)
 wide:w.cell? ⟨R,2,none⟩=some (.int .i64 cols)
 hA:0<M.length→Al=some ⟨g,0,none⟩
 L:Lst w g M
 bM:rowsB M=true
 eM: ∀i,i<M.length→(M.getD i []).length=cols
 small:M.length≤64∧cols≤64
theorem Half.below{w w1:World}{R g cl:Nat}{Al:Option Addr}{M:List (List Int)}{cols:Nat}(h:Half w R g cl Al M cols)(hb:Below w.heap.size w w1):Half w1 R g cl Al M cols:=
 ⟨pw_cell_below hb h.head,pw_cell_below hb h.wide,h.hA,h.L.below hb,h.bM,h.eM,h.small⟩
theorem Hold.half{w:World}{R g d cl cd:Nat}{Al Ad:Option Addr}{M D:List (List Int)}{cols wd:Nat}(h:Hold w R g d cl cd Al Ad M D cols)(s:Shp M D cols wd):Half w R g cl Al M cols:=
 ⟨h.head,h.wide,h.hA,h.L,s.bM,s.eM,⟨s.small.1,s.small.2.1⟩⟩
set_option maxHeartbeats 4000000 in
set_option maxRecDepth 100000 in
theorem gauss_matrix.calls(R g cl:Nat)(Al:Option Addr)(M:List (List Int))(cols:Nat)(w:World)(hH:Half w R g cl Al M cols)(hcl:M.length≤cl):
 Calls Tryd.prog 84 #[.pointer (some ⟨R,0,none⟩)] w fun e w'=> ∃v,e= .returned (.agg #[.int .i64 M.length,.int .i64 cols,v])∧Aside0 (Kd.V (Kd.int .u8) 5 w' w.heap.size (fun k_=>(w.heap.size≤k_)) v M.flatten∧Below w.heap.size w w'):=by
 have aj:=Tryd.underlying24;have h0:=hH.head;have h2:=hH.wide;have HH:=aK hH;obtain⟨F,hF⟩: ∃F,F=M.flatten:=⟨_,rfl⟩
 rw[←hF];have HF:=aK hF;clear hH hF
 go_enter Tryd.func84,Tryd.ntmps84
 go_wp2_with fail
 have I:=below_alloc (Below.refl w.heap.size w) (.cells #[.int .i64 0,.int .i64 0,.slice none 0 0] 24);have aa:=blk_new w (.cells #[.int .i64 0,.int .i64 0,.slice none 0 0] 24);have Y:=pw_cell_below I h0;have Z:=pw_cell_below I h2;have O:=aK I;clear I;generalize w.alloc (.cells #[.int .i64 0,.int .i64 0,.slice none 0 0] 24)=w1 at*;refine start_ (n:=16) (S:=fun w'=>w'.cell? ⟨R,0,none⟩=some (.slice Al M.length cl)∧w'.cell? ⟨R,2,none⟩=some (.int .i64 cols)) (ds:= [15]) (mB 16 0) zb rfl rfl ⟨Y,Z⟩ (fun hHeld=>?_);have U:=aK (below_drew O.out);have J:w1.drew.heap[w.heap.size]? =some (.cells #[.int .i64 0,.int .i64 0,.slice none 0 0] 24):=aa;clear O aa Y Z;generalize w1.drew=w2 at*;refine zpu 0 (some 3) (mB 16 1) ?_;refine zpu 1 (some 4) (mB 16 3) ?_;refine zpu 2 (some 5) (mB 16 7) ?_;refine zpu 5 (some 8) (mB 16 39) ?_;refine zpu 6 (some 9) (mB 16 103) ?_;refine zpu 7 (some 10) (mB 16 231) ?_;refine zpu 9 (some 12) (mB 16 743) ?_;refine zpu 10 (some 13) (mB 16 1767) ?_;refine zpu 11 (some 14) (mB 16 3815) ?_;refine ztk2 3 (some 6) (mB 16 3823) hHeld ?_;refine zpu 4 (some 7) (mB 16 3839) ?_;refine ztk2 8 (some 11) (mB 16 4095) hHeld ?_;refine ztk2 12 (some 15) (mB 16 8191) hHeld ?_;refine zon 13 (some 16) (mB 16 16383) fun K hK=>?_;refine goes_ Tryd.func98 zb rfl #[.slice Al M.length cl,.slice none 0 0] ze rfl rfl zg ?_;refine(bytes_Join.calls g cl cols Al M w2 HH.out.hA (HH.out.below U.out).L HH.out.bM HH.out.eM HH.out.small hcl).mono ?_;rintro e w3 ⟨v,rfl,hq⟩;rw[←HF.out]at hq
 refine⟨_,rfl,?_⟩;obtain⟨Av,cv,ev⟩:=Kd.V_slice hq.out.1;subst ev;have G:=hq.out.2;have D:=(G.block _ (lt_of_get J)).trans J;have ag:=(blk_cell D 0).trans rfl;have ah:=(blk_cell D 1).trans rfl;have ai:=(blk_cell D 2).trans rfl;have ac:=blk_frozen D 0;have ae:=blk_frozen D 1;have af:=blk_frozen D 2;refine hK.out _ _ ⟨pw_cell_below G hHeld.1,pw_cell_below G hHeld.2⟩ (fun hHeld=>?_);clear hK K;refine znm (some 16) ?_;refine zpu 14 (some 17) (mB 16 32767) ?_;refine zln 15 (none) (mB 16 65535) fun K hK=>?_;refine zsk ?_;refine hK.out _ _ ?_;clear hK K;refine done_ zb ?_;clear hHeld ag ah ai ac ae af;have HQ:=aK hq.out;have ab:=aK (G);have X:=aK D;clear hq G D
 go_wp2_with fail
 refine bodyPost_ret (results_cell_row rfl _ _ w.heap.size 24 #[.int .i64 M.length,.int .i64 cols,.slice Av F.length cv] (0,0) _ rfl (blk_put (cs:= #[.int .i64 M.length,.int .i64 cols,.slice none 0 0]) (blk_put (cs:= #[.int .i64 M.length,.int .i64 0,.slice none 0 0]) (blk_put (cs:= #[.int .i64 0,.int .i64 0,.slice none 0 0]) X.out 0 _ rfl) 1 _ rfl) 2 _ rfl) Tryd.underlying24 rfl zb) rfl ?_;have h4:=HQ.out.1;have hlt:=lt_of_get X.out;have ak:=lt_of_get J;refine⟨_,rfl,⟨?_,?_⟩⟩
 ·refine Kd.V_mono (Kd.V_far (Kd.V_far (Kd.V_far h4 (p:=⟨w.heap.size,0,none⟩) (fun k hk=>?_) _) (p:=⟨w.heap.size,1,none⟩) (fun k hk=>?_) _) (p:=⟨w.heap.size,2,none⟩) (fun k hk=>?_) _) (fun k hk=>?_)
  all_goals
   have hk':w2.heap.size≤k:=hk
   first
    |exact fun e=>by have e':k=w.heap.size:=e;omega
    |(show w.heap.size≤k;omega)
 ·exact(((below_step U.out ab.out).setCell (Nat.le_refl _) _).setCell (Nat.le_refl _) _).setCell (Nat.le_refl _) _
def gauss_Reduce.M(a b:Int)(l:List Int):List (List Int):=rowsOf b.toNat a.toNat l
def gauss_Reduce.st(a b:Int)(l:List Int):(List (List Int)×List (List Int))×List Int:=redTo (gauss_Reduce.M a b l) (List.replicate a.toNat []) b.toNat
def gauss_Reduce.f(a b:Int)(l:List Int):Option (Int×Int×List Int×List Int×Int):=
 (matrix_Right.f a b l).bind fun t=>if t=true then(if bytesB l=true then some (a,b,(gauss_Reduce.st a b l).1.1.flatten,(gauss_Reduce.st a b l).2,0)else none)else some (0,0,[],[],3)
theorem right_true{a b:Int}{l:List Int}(h:matrix_Right.f a b l=some true):0≤a∧a≤64∧0≤b∧b≤64∧l.length=a.toNat*b.toNat:=by
 unfold matrix_Right.f matrix_side.f at h;by_cases h1:a≥0
 ·rw[if_pos h1]at h
  by_cases h2:a≤64
  ·by_cases h3:b≥0
   ·by_cases h4:b≤64
    ·rw[if_pos h3]at h
     simp[h2,h4]at h
     obtain⟨x,rfl⟩:=Int.eq_ofNat_of_zero_le h1;obtain⟨y,rfl⟩:=Int.eq_ofNat_of_zero_le h3;have hm:x*y≤64*64:=Nat.mul_le_mul za za;rw[←Int.natCast_mul,wrap_small za za]at h
     refine⟨h1,h2,h3,h4,?_⟩;rw[Int.toNat_natCast,Int.toNat_natCast];omega
    ·rw[if_pos h3]at h
     simp[h2,h4]at h
   ·rw[if_neg h3]at h
    simp[h2]at h
  ·simp[h2]at h
 ·rw[if_neg h1]at h
  simp at h
theorem bytesB_sub{l:List Int}(h:bytesB l=true)(i n:Nat):bytesB ((l.drop i).take n)=true:=by
 unfold bytesB at h⊢;rw[List.all_eq_true]at h⊢
 exact fun x hx=>h x (List.mem_of_mem_drop (List.mem_of_mem_take hx))
theorem shp_of{rows cols:Nat}{l:List Int}(hb:bytesB l=true)(hl:l.length=rows*cols)(h:rows≤64∧cols≤64){D:List (List Int)}(hD:D.length=rows)(hDb:rowsB D=true){wd:Nat}(hDe: ∀i,i<rows→(D.getD i []).length=wd)(hwd:wd≤64):Shp (rowsOf cols rows l) D cols wd:=by
 have hlen:=rowsOf_length cols rows l;refine⟨by rw[hD,hlen],?_,hDb,fun i hi=>?_,fun i hi=>hDe i za,⟨by omega,h.2,hwd⟩⟩
 ·rw[rowsB,List.all_eq_true];intro x hx;obtain⟨i,_,rfl⟩:=List.mem_map.1 hx;exact bytesB_sub hb _ _
 ·rw[hlen]at hi
  rw[rowsOf_get hi];have hle:i*cols+cols≤l.length:=by rw[hl,←Nat.succ_mul];exact Nat.mul_le_mul_right _ hi
  simp;omega
theorem shp_nil{rows cols:Nat}{l:List Int}(hb:bytesB l=true)(hl:l.length=rows*cols)(h:rows≤64∧cols≤64):Shp (rowsOf cols rows l) (List.replicate rows []) cols 0:=
 shp_of hb hl h zd (by rw[rowsB,List.all_eq_true];intro x hx;rw[List.eq_of_mem_replicate hx];rfl) (fun i hi=>by rw[List.getD_eq_getElem?_getD,List.getElem?_replicate_of_lt hi];rfl) (Nat.zero_le _)
set_option maxHeartbeats 4000000 in
set_option maxRecDepth 100000 in
theorem gauss_Reduce.calls(J:Int)(L:Int)(G:Option Addr)(I:Nat)(D:List Int)(r1:Int)(r2:Int)(r3:List Int)(r4:List Int)(r5:Int)(w:World)(ae:Kd.C (Kd.int .u8) w G D.length D)(ab:D.length≤I)(h:gauss_Reduce.f J L D=some (r1,r2,r3,r4,r5)):
 Calls Tryd.prog 89 #[.agg #[.int .i64 J,.int .i64 L,.slice G D.length I]] w fun e w'=> ∃v2_ v3_:Value,e= .returned (.tuple #[.agg #[.int .i64 r1,.int .i64 r2,v2_],v3_,.int .i64 r5])∧Kd.V (Kd.int .u8) 5 w' w.heap.size (fun k_=>(w.heap.size≤k_)∧some k_≠(v3_:Value).ownBlock) v2_ r3∧Kd.R (Kd.int .i64) 3 w' w.heap.size (fun k_=>(w.heap.size≤k_)) v3_ r4∧Below w.heap.size w w':=by
 have az:=Tryd.underlying24;have HR:=aK ae;have HC:=aK ab;clear ae ab;unfold gauss_Reduce.f at h;obtain⟨t,hm,h⟩:=Option.bind_eq_some_iff.mp h;have HM:=aK hm
 cases t with
 |false=>
  simp only[Bool.false_eq_true,if_false,Option.some.injEq,Prod.mk.injEq]at h;obtain⟨rfl,rfl,rfl,rfl,rfl⟩:=h;clear hm
  go_enter Tryd.func89,Tryd.ntmps89
  go_upto_region 1 with(fail)
  have aa:=below_alloc (below_alloc (Below.refl w.heap.size w) (.cells #[.int .i64 J,.int .i64 L,.slice G D.length I] 24)) (.cells #[.int .i64 0,.int .i64 0,.slice none 0 0] 24);have hbm:=heap_alloc2_old w (.cells #[.int .i64 J,.int .i64 L,.slice G D.length I] 24) (.cells #[.int .i64 0,.int .i64 0,.slice none 0 0] 24);have hbr:=blk_new (w.alloc (.cells #[.int .i64 J,.int .i64 L,.slice G D.length I] 24)) (.cells #[.int .i64 0,.int .i64 0,.slice none 0 0] 24);rw[World.size_alloc]at hbr
  have Y:=aK aa;clear aa;generalize(w.alloc (.cells #[.int .i64 J,.int .i64 L,.slice G D.length I] 24)).alloc (.cells #[.int .i64 0,.int .i64 0,.slice none 0 0] 24)=w2 at*;have x0:w2.cell? ⟨w.heap.size,0,none⟩=some (.int .i64 J):=(blk_cell hbm 0).trans rfl;have x1:w2.cell? ⟨w.heap.size,1,none⟩=some (.int .i64 L):=(blk_cell hbm 1).trans rfl;have x2:w2.cell? ⟨w.heap.size,2,none⟩=some (.slice G D.length I):=(blk_cell hbm 2).trans rfl
  go_wp2_with fail
  refine(matrix_Right.calls J L G I D false _ (Kd.C_below HR.out Y.out) HC.out HM.out).mono ?_;rintro e w3 ⟨rfl,U⟩;have O:=(U.block _ (lt_of_get hbr)).trans hbr;have y0:w3.cell? ⟨w.heap.size+1,0,none⟩=some (.int .i64 0):=(blk_cell O 0).trans rfl;have y1:w3.cell? ⟨w.heap.size+1,1,none⟩=some (.int .i64 0):=(blk_cell O 1).trans rfl;have y2:w3.cell? ⟨w.heap.size+1,2,none⟩=some (.slice none 0 0):=(blk_cell O 2).trans rfl;have f0:=blk_frozen O 0;have f1:=blk_frozen O 1;have f2:=blk_frozen O 2;clear x0 x1 x2;have Z:=aK (below_step Y.out U);clear U
  go_wp2_with fail
  have n1:=Y.out.size;refine bodyPost_ret (results_ctt rfl _ _ (w.heap.size+1) 24 #[.int .i64 0,.int .i64 0,.slice none 0 0] (0,0) _ rfl (blk_put (cs:= #[.int .i64 0,.int .i64 0,.slice none 0 0]) (blk_put (cs:= #[.int .i64 0,.int .i64 0,.slice none 0 0]) (blk_put (cs:= #[.int .i64 0,.int .i64 0,.slice none 0 0]) O 0 _ rfl) 1 _ rfl) 2 _ rfl) Tryd.underlying24 rfl zb) rfl ?_;refine⟨_,_,rfl,Kd.V_nil _ _ _ _ _,Kd.R_nil _ _ _ _ _,?_⟩;exact((Z.out.setCell zf _).setCell zf _).setCell zf _
 |true=>
  have hrt:=right_true hm;rw[if_pos rfl]at h
  by_cases hb:bytesB D=true
  ·rw[if_pos hb]at h
   simp only[Option.some.injEq,Prod.mk.injEq]at h;obtain⟨rfl,rfl,rfl,rfl,rfl⟩:=h;obtain⟨e0,e1,e2,e3,hl⟩:=hrt;obtain⟨rows,rfl⟩:=Int.eq_ofNat_of_zero_le e0;obtain⟨cols,rfl⟩:=Int.eq_ofNat_of_zero_le e2;rw[Int.toNat_natCast,Int.toNat_natCast]at hl
   have hrw:rows≤64∧cols≤64:=by omega
   have HS:=aK (shp_nil hb hl hrw);have HST:=aK (show gauss_Reduce.st (rows:Int) (cols:Int) D=redTo (rowsOf cols rows D) (List.replicate rows []) cols from rfl);have HL:=aK hl;generalize gauss_Reduce.st (rows:Int) (cols:Int) D=st at*;obtain⟨F,hF⟩: ∃F,F=st.1.1.flatten:=⟨_,rfl⟩
   rw[←hF];have HF:=aK hF;clear hF hb hm hl e0 e1 e2 e3
   go_enter Tryd.func89,Tryd.ntmps89
   go_upto_region 1 with(fail)
   have aa:=below_alloc (below_alloc (Below.refl w.heap.size w) (.cells #[.int .i64 (rows:Int),.int .i64 (cols:Int),.slice G D.length I] 24)) (.cells #[.int .i64 0,.int .i64 0,.slice none 0 0] 24);have hbm:=heap_alloc2_old w (.cells #[.int .i64 (rows:Int),.int .i64 (cols:Int),.slice G D.length I] 24) (.cells #[.int .i64 0,.int .i64 0,.slice none 0 0] 24);have hbr:=blk_new (w.alloc (.cells #[.int .i64 (rows:Int),.int .i64 (cols:Int),.slice G D.length I] 24)) (.cells #[.int .i64 0,.int .i64 0,.slice none 0 0] 24);rw[World.size_alloc]at hbr
   have Y:=aK aa;clear aa;generalize(w.alloc (.cells #[.int .i64 (rows:Int),.int .i64 (cols:Int),.slice G D.length I] 24)).alloc (.cells #[.int .i64 0,.int .i64 0,.slice none 0 0] 24)=w2 at*;have x0:w2.cell? ⟨w.heap.size,0,none⟩=some (.int .i64 (rows:Int)):=(blk_cell hbm 0).trans rfl;have x1:w2.cell? ⟨w.heap.size,1,none⟩=some (.int .i64 (cols:Int)):=(blk_cell hbm 1).trans rfl;have x2:w2.cell? ⟨w.heap.size,2,none⟩=some (.slice G D.length I):=(blk_cell hbm 2).trans rfl
   go_wp2_with fail
   refine(matrix_Right.calls rows cols G I D true _ (Kd.C_below HR.out Y.out) HC.out HM.out).mono ?_;rintro e w3 ⟨rfl,U⟩;have O:=(U.block _ (lt_of_get hbr)).trans hbr;have ag:=(U.block _ (lt_of_get hbm)).trans hbm;have Z:=aK (below_step Y.out U);clear x0 x1 x2 hbr hbm U;have x0:w3.cell? ⟨w.heap.size,0,none⟩=some (.int .i64 rows):=(blk_cell ag 0).trans rfl;have x1:w3.cell? ⟨w.heap.size,1,none⟩=some (.int .i64 cols):=(blk_cell ag 1).trans rfl;have x2:w3.cell? ⟨w.heap.size,2,none⟩=some (.slice G D.length I):=(blk_cell ag 2).trans rfl
   go_wp2_with fail
   refine(gauss_of.calls rows cols G I D w3 (Kd.C_below HR.out Z.out) HC.out HL.out hrw).mono ?_;rintro e w4 ⟨R,rfl,hq⟩;obtain⟨g,d,cl,cd,Al,Ad,hH,ai,hg,hd,hRw,ay,ax,hcl,hcd,cR,hRf⟩:=hq.out;have aq:=(ai.block _ (lt_of_get O)).trans O;have HH:=aK hH;have ah:=aK (below_step Z.out ai);have ar:=lt_of_get O;clear hq hH ai O ag x0 x1 x2
   go_wp2_with fail
   refine(gauss_reduce.calls R g d cl cd Al Ad _ _ cols 0 w4 HH.out HS.out ay ax).mono ?_;rintro e w5 ⟨v,rfl,hq⟩;rw[←HST.out]at hq
   obtain⟨an,ap,ao⟩:=hq.out;have aj:=ao.to_below (n:=w3.heap.size) (by have:=ah.out.size;omega) (fun i hi=>by rcases hi with(hi|hi)|hi<;>omega);have ak:=(aj.block _ ar).trans aq;have av:=aK an;have am:=aK ap;have al:=aK aj;have hsh:=red_shp HS.out cols;rw[←HST.out]at hsh
   have HSH:=aK hsh;have a0:=ah.out.size;clear hq an ap ao aj aq hsh
   go_wp2_with fail
   have hlen:st.1.1.length=rows:=by rw[HSH.out.2.1,rowsOf_length]
   refine(gauss_matrix.calls R g cl Al st.1.1 cols w5 (av.out.half HSH.out.1) za).mono ?_;rintro e w6 ⟨vm,rfl,hq⟩;rw[←HF.out]at hq
   rw[hlen];obtain⟨Av,cv,ev⟩:=Kd.V_slice hq.out.1;subst ev;have af:=hq.out.2;have X:=(af.block _ (lt_of_get ak)).trans ak;have HV:=aK hq.out.1;have aw:=aK (Kd.R_below am.out af);have ac:=(Kd.R_bound am.out).1;have n3:=Z.out.size;have n5:=al.out.size;have au:=aK ((ah.out.trans (al.out.mono n3)).trans (af.mono za));have y0:w6.cell? ⟨w.heap.size+1,0,none⟩=some (.int .i64 0):=(blk_cell X 0).trans rfl;have y1:w6.cell? ⟨w.heap.size+1,1,none⟩=some (.int .i64 0):=(blk_cell X 1).trans rfl;have y2:w6.cell? ⟨w.heap.size+1,2,none⟩=some (.slice none 0 0):=(blk_cell X 2).trans rfl;have f0:=blk_frozen X 0;have f1:=blk_frozen X 1;have f2:=blk_frozen X 2;clear hq af ak hlen
   go_wp2_with fail
   refine bodyPost_ret (results_ctt rfl _ _ (w.heap.size+1) 24 #[.int .i64 rows,.int .i64 cols,.slice Av F.length cv] (0,0) _ rfl (blk_put (cs:= #[.int .i64 rows,.int .i64 cols,.slice none 0 0]) (blk_put (cs:= #[.int .i64 rows,.int .i64 0,.slice none 0 0]) (blk_put (cs:= #[.int .i64 0,.int .i64 0,.slice none 0 0]) X 0 _ rfl) 1 _ rfl) 2 _ rfl) Tryd.underlying24 rfl zb) rfl ?_;have hown: ∀k,v.ownBlock=some k→w4.heap.size≤k∧k<w5.heap.size:=fun k hk=>⟨(ac k hk).2.1,(ac k hk).2.2.1⟩
   refine⟨_,_,rfl,?_,?_,?_⟩
   ·refine Kd.V_mono (Kd.V_far (Kd.V_far (Kd.V_far HV.out (p:=⟨w.heap.size+1,0,none⟩) (fun k hk e=>?_) _) (p:=⟨w.heap.size+1,1,none⟩) (fun k hk e=>?_) _) (p:=⟨w.heap.size+1,2,none⟩) (fun k hk e=>?_) _) (fun k hk=>⟨?_,fun e=>?_⟩)
    ·have h1:w5.heap.size≤k:=hk;have h2:k=w.heap.size+1:=e;omega
    ·have h1:w5.heap.size≤k:=hk;have h2:k=w.heap.size+1:=e;omega
    ·have h1:w5.heap.size≤k:=hk;have h2:k=w.heap.size+1:=e;omega
    ·have h1:w5.heap.size≤k:=hk;omega
    ·have h1:w5.heap.size≤k:=hk;have h2:=(hown k e.symm).2;omega
   ·have h1:=Kd.R_lower (Kd.R_bound aw.out) (by omega:w.heap.size≤w4.heap.size);refine Kd.R_mono (Kd.R_far (Kd.R_far (Kd.R_far h1 (p:=⟨w.heap.size+1,0,none⟩) (fun k hk e=>?_) _) (p:=⟨w.heap.size+1,1,none⟩) (fun k hk e=>?_) _) (p:=⟨w.heap.size+1,2,none⟩) (fun k hk e=>?_) _) (fun k hk=>?_)
    ·have h1:=hk.2.1;have h2:k=w.heap.size+1:=e;omega
    ·have h1:=hk.2.1;have h2:k=w.heap.size+1:=e;omega
    ·have h1:=hk.2.1;have h2:k=w.heap.size+1:=e;omega
    ·have h1:=hk.2.1;omega
   ·exact((au.out.setCell zf _).setCell zf _).setCell zf _
  ·rw[if_neg hb]at h
   cases h
theorem Hold.putD{w w1:World}{R g d cl cd:Nat}{Al Ad:Option Addr}{M D:List (List Int)}{cols i:Nat}{v:Value}{l:List Int}(h:Hold w R g d cl cd Al Ad M D cols)(hi:i<D.length)(hg:w.grownBy w1 (some d))
 (hd:w1.heap[d]? =(w.setCell ⟨d,i,none⟩ v).heap[d]?) (hv:RowV w1 v l):Hold w1 R g d cl cd Al Ad M (D.set i l) cols:=by
 obtain⟨cells,hc⟩:=h.LD.typ za;have kb:KeepB w w1:=KeepB.grown hg hc zc;refine h.right hg ⟨fun _=>?_,fun j hj=>?_,fun j hj=>?_⟩ zd za
 ·exact⟨_,hd.trans (blk_put hc i v rfl)⟩
 ·rw[List.length_set]at hj
  rw[cell_same (w:=w.setCell ⟨d,i,none⟩ v) (p:=⟨d,j,none⟩) hd];by_cases e:i=j
  ·subst e;obtain⟨v0,h1,_⟩:=h.LD.row i hi;refine⟨v,World.cell?_setCell_same' _ _ _ (by rw[h1];rfl),?_⟩;rw[List.getD_eq_getElem?_getD,List.getElem?_set_self hi];exact hv
  ·obtain⟨v0,h1,h2⟩:=h.LD.row j hj;refine⟨v0,(World.cell?_setCell_other _ _ _ _ (by simp[e])).trans h1,?_⟩;rw[List.getD_eq_getElem?_getD,List.getElem?_set_ne e,←List.getD_eq_getElem?_getD];exact h2.keep kb
 ·rw[frozen_same (w:=w.setCell ⟨d,i,none⟩ v) (p:=⟨d,j,none⟩) hd,World.frozen?_setCell];exact h.LD.frz j (by simpa using hj)
def unitRow(n i:Nat):List Int:=(List.replicate n 0).set i 1
def unitsTo(n i:Nat):List (List Int):=(List.range n).map fun k=>if k<i then unitRow n k else []
theorem unitsTo_length(n i:Nat):(unitsTo n i).length=n:=by simp[unitsTo]
theorem unitsTo_get{n i k:Nat}(hk:k<n):(unitsTo n i).getD k [] =if k<i then unitRow n k else []:=by
 unfold unitsTo;rw[List.getD_eq_getElem?_getD,List.getElem?_map,List.getElem?_range hk];rfl
theorem unitsTo_zero(n:Nat):unitsTo n 0=List.replicate n []:=by
 apply List.ext_getElem (by simp[unitsTo]);intro k h1 h2;simp[unitsTo]
theorem unitsTo_succ{n i:Nat}(hi:i<n):(unitsTo n i).set i (unitRow n i)=unitsTo n (i+1):=by
 apply List.ext_getElem (by simp[unitsTo]);intro k h1 h2;have hk:k<n:=by rw[unitsTo_length]at h2;exact h2
 simp only[unitsTo,List.getElem_set,List.getElem_map,List.getElem_range];by_cases e:i=k
 ·subst e;rw[if_pos rfl,if_pos za]
 ·rw[if_neg e];by_cases h:k<i
  ·rw[if_pos h,if_pos za]
  ·rw[if_neg h,if_neg za]
theorem bytesB_unit(n i:Nat):bytesB (unitRow n i)=true:=bytesB_mk fun x hx=>by
 rcases List.mem_or_eq_of_mem_set hx with h|rfl
 ·rw[List.eq_of_mem_replicate h];omega
 ·omega
theorem shp_unit{n:Nat}{l:List Int}(hb:bytesB l=true)(hl:l.length=n*n)(h:n≤64):Shp (rowsOf n n l) (unitsTo n n) n n:=
 shp_of hb hl ⟨h,h⟩ (unitsTo_length n n) (by
  rw[rowsB,List.all_eq_true];intro x hx;obtain⟨k,hk,rfl⟩:=List.mem_map.1 hx;rw[if_pos (List.mem_range.1 hk)];exact bytesB_unit _ _) (fun i hi=>by rw[unitsTo_get hi,if_pos hi];simp[unitRow]) h
theorem R_one{w:World}{base:Nat}{ok:Nat→Prop}{b n c i:Nat}(h:Kd.R (Kd.int .u8) 5 w base ok (.slice (some ⟨b,0,none⟩) n c) (List.replicate n 0))(hi:i<n):w.cell? ⟨b,i,none⟩=some (.int .u8 0)∧w.frozen? ⟨b,i,none⟩=false:=by
 have h1:=Kd.reads_of_C (enc:=Value.int .u8) (d:=(0:Int)) (h1:=fun _=>rfl) (Kd.R_reads' h).2.2;obtain⟨_,cells,hc⟩:=own_addr (b:=b) h rfl;obtain⟨ad,ha,hcell⟩:=h1.2.2 (by simpa using Nat.lt_of_le_of_lt (Nat.zero_le _) hi)
 cases ha
 have:=hcell i (by simpa using hi);rw[List.getD_eq_getElem?_getD,List.getElem?_replicate_of_lt hi]at this
 refine⟨?_,by simp[World.frozen?,hc]⟩;rw[show(⟨b,i,none⟩:Addr)=(⟨b,0,none⟩:Addr).add i from by unfold Addr.add;by_cases e:i=0<;>simp[e]];exact this
theorem Hold.unitD{w w1:World}{R g d cl cd:Nat}{Al Ad:Option Addr}{M D:List (List Int)}{cols i nb n c:Nat}{ok:Nat→Prop}(h:Hold w R g d cl cd Al Ad M D cols)(hi:i<D.length)(hb:Below w.heap.size w w1)
 (hv:Kd.R (Kd.int .u8) 5 w1 w.heap.size ok (.slice (some ⟨nb,0,none⟩) n c) (List.replicate n 0)):Hold ((w1.setCell ⟨d,i,none⟩ (.slice (some ⟨nb,0,none⟩) n c)).setCell ⟨nb,i,none⟩ (.int .u8 1)) R g d cl cd Al Ad M (D.set i (unitRow n i)) cols:=by
 obtain⟨cells,hc⟩:=h.LD.typ za;have hdl:=lt_of_get hc;have hnb:w.heap.size≤nb:=((Kd.R_bound hv).1 nb rfl).2.1;have hd:=(hb.block d hdl).trans hc;have hne:nb≠d:=by omega
 have e1:((w1.setCell ⟨d,i,none⟩ (.slice (some ⟨nb,0,none⟩) n c)).setCell ⟨nb,i,none⟩ (.int .u8 1)).heap[d]? =(w.setCell ⟨d,i,none⟩ (.slice (some ⟨nb,0,none⟩) n c)).heap[d]? :=by
  rw[Below.heap_setCell _ _ _ d (by show d≠nb;omega),blk_put hd i _ rfl,blk_put hc i _ rfl]
 have g1:w.grownBy ((w1.setCell ⟨d,i,none⟩ (.slice (some ⟨nb,0,none⟩) n c)).setCell ⟨nb,i,none⟩ (.int .u8 1)) (some d):=
  ⟨hb.os,hb.tape,hb.output,by have:=hb.size;simpa using this,fun k hk hkd=>by
   rw[Below.heap_setCell _ _ _ k (by show k≠nb;omega),Below.heap_setCell _ _ _ k (by intro e;exact hkd (by rw[e]))];exact hb.block k hk⟩
 have I:=Kd.R_far (Kd.R_mono (Kd.R_bound hv) (fun k hk=>hk.2.1)) (p:=⟨d,i,none⟩) (fun k hk=>by show k≠d;omega) (.slice (some ⟨nb,0,none⟩) n c);have G:=Kd.R_putn I (i:Int) (1:Int);rw[Int.toNat_natCast]at G
 exact h.putD (v:= .slice (some ⟨nb,0,none⟩) n c) hi g1 e1 (RowV.of_R G)
end Go.Proofs.YtkagobkedifhkaaDoor.Q
