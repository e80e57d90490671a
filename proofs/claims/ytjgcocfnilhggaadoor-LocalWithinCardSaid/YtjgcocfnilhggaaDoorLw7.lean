/- The row LocalWithin: the Go law answers true at every input that its guards let in; no condition of its own. -/
import Derived.Test.YtjgcocfnilhggaaDoorRows
import Derived.LaidMore
import Derived.Lib.LaidTab
import Derived.SevenTiedAt
import Derived.Test.YtjgcocfnilhggaaDoorCards
import Derived.Test.YtjgcocfnilhggaaDoorTie
import Derived.ProofKit
import Derived.ShutString
import Derived.ChangeOld
import Derived.Test.YtjgcocfnilhggaaDoorLw6
set_option maxHeartbeats 16000000
set_option maxRecDepth 100000
set_option linter.unusedVariables false
set_option linter.unusedSimpArgs false
namespace Go.Proofs.YtjgcocfnilhggaaDoor.localWithin
open Go.ChangeShapes Go.WideShapes Go.ChangeAt RowKit YtjgcocfnilhggaaDoorW.PrintWords
theorem own:ownKnob Tryd.prog.godebug=none:=by kernel_rfl
theorem laidOut:laidOutB Tryd.prog=true:=by kernel_rfl
theorem opens0:Open.Opens Tryd.prog 27 Q.k27 (fun x=>(((Lit.int .i64 x.f0.f0).wf=true/\((Lit.int .i64 x.f0.f1).wf=true/\(x.f0.f2.length<=maxLen/\x.f0.f2.length*1<=140737488351232/\ ∀x7∈x.f0.f2,(Lit.int .u8 x7).wf=true)))/\(x.f1.length<=maxLen/\x.f1.length*8<=140737488351232/\ ∀x4∈x.f1,(Lit.int .u64 x4).wf=true))):=(Open.Opens.struct (d:=(Kd.pair Q.k24 (Kd.slice 29 (Kd.int .u64)))) (f:=fun x:Q.S27=>(x.f0,x.f1)) Tryd.underlying27 zb (fun a=>⟨⟨a.1,a.2⟩,rfl⟩) (Open.OpensF.cons rfl (Open.Opens.struct (d:=(Kd.pair (Kd.int .i64) (Kd.pair (Kd.int .i64) (Kd.slice 5 (Kd.int .u8))))) (f:=fun x:Q.S24=>(x.f0,x.f1,x.f2)) Tryd.underlying24 zb (fun a=>⟨⟨a.1,a.2.1,a.2.2⟩,rfl⟩) (Open.OpensF.cons rfl (Open.opens_int Tryd.underlying3 zb) (Open.OpensF.cons rfl (Open.opens_int Tryd.underlying3 zb) (Open.OpensF.one rfl (Open.opens_slice Tryd.underlying22 zb zb (0:Int) (Open.opens_int Tryd.underlying5 zb)))))) (Open.OpensF.one rfl (Open.opens_slice Tryd.underlying25 zb zb (0:Int) (Open.opens_int Tryd.underlying29 zb)))))
theorem opens1:Open.Opens Tryd.prog 3 (Kd.int .i64) (fun x=>(Lit.int .i64 x).wf=true):=(Open.opens_int Tryd.underlying3 zb)
theorem door_met(os:Os)(args:Array Value):laidMetH Tryd.prog [("math/bits.deBruijn64tab",Rows.laid_math_bits_deBruijn64tab)] ((World.doorLaid Tryd.prog 14 os).forCall (fun _ _=>0) ⟨#[],args,[]⟩).memory:=
 laidMetH_of_parts3 (fuel:=8) (laidMet_of_run' 8 zb zb) zb zb
theorem tab_of{w:World}(h:laidMetH Tryd.prog [("math/bits.deBruijn64tab",Rows.laid_math_bits_deBruijn64tab)] w):TabAt 0 Lib.deBruijn64tab w:=by
 rw[MakeChecks.laidMetH_plain _ _ _ zb]at h
 have h':laidMet Tryd.prog [("math/bits.deBruijn64tab",Lib.tabData .u8 (Lib.deBruijn64tab.map fun(x:Nat)=>(x:Int)))] w:=h;intro j hj;have e:=(Lib.tabIs_of_head (g:=0) zb zb Tryd.underlying120 Tryd.underlying5 zb zb h').cell (g:=0) zb j (by simpa using hj);rw[e];simp[List.getD_eq_getElem?_getD,List.getElem?_eq_getElem hj]
theorem lifted(os:Os)(started:os.Started)(H:Type)(enc:TypeId×Value->H):
 ReturnsInHanded {} Tryd.checked os 8 .any (fun w args=>(Rows.localWithinSpec.pre enc Tryd.prog Tryd.f8 [] false w args/\laidMetH Tryd.prog [("math/bits.deBruijn64tab",Rows.laid_math_bits_deBruijn64tab)] w)/\sizedMet enc Tryd.prog Tryd.f8 (OpenSpec.ofChange Rows.localWithinSpec) false w args) (Rows.localWithinSpec.post enc Tryd.prog Tryd.f8 false true false false):=by
 refine returnsInHanded_of_change_and (C:=Tryd.checked) (X:=fun w _=>laidMetH Tryd.prog [("math/bits.deBruijn64tab",Rows.laid_math_bits_deBruijn64tab)] w) (fun _ _ _ hh h=>h.of_heap hh) own started zb Tryd.func8
  (ChangeSpec.witness_shaped (enc:=enc) (C:=Tryd.checked) (os:=os) (X:=fun w _=>laidMetH Tryd.prog [("math/bits.deBruijn64tab",Rows.laid_math_bits_deBruijn64tab)] w) false (World.doorLaid Tryd.prog 14 os) #[.agg #[(.int .i64 0),(.int .i64 0),(.slice none 0 0),(.slice none 0 0)],.int .i64 0] 8 rfl (World.shaped_of_RefB zb zb) zb zb zb (door_met os _)) ?_
 intro W base args ds gs before D hW hcnd O hL _;have hsz:(DataW.weightsEach Tryd.prog (Tryd.f8.params.toList++Rows.localWithinSpec.plain.varTypes Tryd.prog) (ds++gs)).all (· <=reachBytes)=true:=O;have hval: ∀(j:Nat) t v,Tryd.f8.params[j]? =some t->args[j]? =some v->Value.okWide Tryd.prog W .any base t v:=D;have hW':=hW;obtain⟨p,q,aa,hV,rfl,hfz,hnd⟩:=hW;have hA:DataW.TrodAll enc Tryd.prog W 0 (fun _=>true) true Tryd.f8.params.toList args.toList ds p:=aa;rw[Tryd.params8]at hA hval hsz
 obtain⟨v0,al,d0,aj,p0,q0,hargs,rfl,rfl,h0,r0⟩:=trodAll_cons hA;obtain⟨v1,am,d1,ak,p1,q1,rfl,rfl,rfl,h1,r1⟩:=trodAll_cons r0;obtain⟨rfl,rfl,rfl⟩:=trodAll_nil r1;obtain rfl:args= #[v0,v1]:=by cases args;simp_all
 obtain⟨rfl,rfl⟩:=trodVars_none hV;obtain⟨x0,af,ah⟩:=opens0.arg hsz (j:=0) rfl rfl h0;obtain⟨ae,rfl,_⟩:=okWide_struct Tryd.underlying27 (hval 0 27 v0 rfl rfl);obtain⟨G,J,I,L,e0,ab,Y,ac,Z⟩:=Q.k27_open af;obtain rfl:ae= #[.int .i64 x0.f0.f0,.int .i64 x0.f0.f1,.slice G x0.f0.f2.length J,.slice I x0.f1.length L]:=Array.toList_inj.1 e0;obtain⟨x1,ag,ai⟩:=opens1.arg hsz (j:=1) rfl rfl h1;obtain⟨a1,rfl,rfl,rfl,_⟩:=open_int Tryd.underlying3 (hval 1 3 v1 rfl rfl) h1;obtain rfl:a1=x1:=by simpa[Value.cells,Kd.int,Kd.scalar]using ag
 clear aa D O hsz;obtain⟨k,hp⟩:=Pure.LocalWithin x0 ah a1 ai;refine(Q.recouplaw19_LocalWithin.calls k x0.f0.f0 x0.f0.f1 G J x0.f0.f2 I L x0.f1 a1 true W Y ab Z ac hp (tab_of hL)).mono fun e W' ⟨he,U⟩=>?_;have bel:=U;subst he;exact⟨_,rfl,_,_,_,[],_,[],hW',trodAll_mk1 (shut_bool Tryd.underlying4 _),(trodAll_cons_mk (Below.trod laidOut zb (of_decide_eq_true zb) h0 bel (Open.trod_lt_of h0)) (trodAll_cons_mk (Below.trod laidOut zb (of_decide_eq_true zb) h1 bel (Open.trod_lt_of h1)) trodAll_mk0)),rfl,bel.frame _,fun h=>by cases h⟩
theorem over:Rows.localWithinRow.holds Tryd.pinned (OpenSpec.ofChange Rows.localWithinSpec):=
 OpenClaim.holds_of_wide 8 Tryd.f8 rfl rfl rfl rfl rfl rfl rfl ⟨rfl,rfl,rfl,rfl,rfl⟩ rfl rfl rfl rfl rfl zb Tryd.func8 zb
  (of_decide_eq_true zb) (by unfold Func.isWrapper;first|(rw[if_pos (by decide+kernel)];kernel_rfl)|(rw[if_neg (by decide+kernel)];exact⟨rfl,rfl⟩))
  (fun os started H enc _=>lifted os started H enc)
theorem proved:Rows.LocalWithinSaid:=over
end Go.Proofs.YtjgcocfnilhggaaDoor.localWithin
namespace Go.Proofs.YtjgcocfnilhggaaDoor
theorem localWithin_holds:Rows.LocalWithinCardSaid:=
 Claim7.holds_tied_plain_at .later [] [.data] true (true,"93e2fdfd4300ac0036853376af19a175c3f76838435f0cef2f4ddd9f0d139315") false
  localWithin.proved (fun _ h=>by cases h) zb (fun _ h=>by cases h) localWithin_row_tie rfl ⟨rfl,rfl⟩ zb rfl
  (fun f fn hf hfn=>by
    obtain rfl:f=8:=Option.some.inj ((show Tryd.prog.funcNamed "recoup/recouplaw19.LocalWithin" =some 8 by kernel_rfl).symm.trans hf) |>.symm
    obtain rfl:fn=Tryd.f8:=(Option.some.inj (Tryd.func8.symm.trans hfn)).symm;exact⟨by kernel_rfl,fun j t ht=>by
     rw[Tryd.params8]at ht
     have hm:t∈ [27,3]:=by simpa using Array.mem_of_getElem? ht
     have hall:([27,3].all fun u=> !Tryd.prog.wantsStandIn u)=true:=by kernel_rfl
     exact(show Tryd.prog.wantsStandIn t=false by simpa using List.all_eq_true.1 hall t hm)⟩)
  zb
end Go.Proofs.YtjgcocfnilhggaaDoor
