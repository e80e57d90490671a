/- The row VerdictFresh: the Go law answers true at every input that its guards let in; no condition of its own. -/
import Derived.Test.YtkagobkedifhkaaDoorRows
import Derived.LaidMore
import Derived.Lib.LaidTab
import Derived.SevenTiedAt
import Derived.Test.YtkagobkedifhkaaDoorCards
import Derived.Test.YtkagobkedifhkaaDoorTie
import Derived.ProofKit
import Derived.ShutString
import Derived.ChangeOld
import Derived.Test.YtkagobkedifhkaaDoorF16
namespace Go.Proofs.YtkagobkedifhkaaDoor.verdictFresh
open Go.ChangeShapes Go.WideShapes Go.ChangeAt Go.RowKit Go.Proofs.YtkagobkedifhkaaDoorW.PrintWords
set_option linter.unusedVariables false
theorem own:ownKnob Tryd.prog.godebug=none:=by kernel_rfl
theorem laidOut:laidOutB Tryd.prog=true:=by kernel_rfl
theorem opens0:Open.Opens Tryd.prog 24 Q.k24 (fun x=>((Lit.int .i64 x.f0).wf=true∧((Lit.int .i64 x.f1).wf=true∧(x.f2.length≤maxLen∧x.f2.length*1≤140737488351232∧ ∀x4∈x.f2,(Lit.int .u8 x4).wf=true)))):=(Open.Opens.struct (d:=(Kd.pair (Kd.int .i64) (Kd.pair (Kd.int .i64) (Kd.slice 5 (Kd.int .u8))))) (f:=fun x:Q.S24=>(x.f0,x.f1,x.f2)) Tryd.underlying24 zab (fun a=>⟨⟨a.1,a.2.1,a.2.2⟩,rfl⟩) (Open.OpensF.cons rfl (Open.opens_int Tryd.underlying3 zab) (Open.OpensF.cons rfl (Open.opens_int Tryd.underlying3 zab) (Open.OpensF.one rfl (Open.opens_slice Tryd.underlying22 zab zab (0:Int) (Open.opens_int Tryd.underlying5 zab))))))
theorem opens1:Open.Opens Tryd.prog 26 (Kd.int .u64) (fun x=>(Lit.int .u64 x).wf=true):=(Open.opens_int Tryd.underlying26 zab)
set_option maxRecDepth 100000 in
theorem door_met(os:Os)(args:Array Value):laidMetH Tryd.prog [("math/bits.deBruijn64tab",Rows.laid_math_bits_deBruijn64tab)] ((World.doorLaid Tryd.prog 14 os).forCall (fun _ _=>0) ⟨#[],args,[]⟩).memory:=
 laidMetH_of_parts3 (fuel:=8) (laidMet_of_run' 8 zab zab) zab zab
theorem tab_of{w:World}(h:laidMetH Tryd.prog [("math/bits.deBruijn64tab",Rows.laid_math_bits_deBruijn64tab)] w):TabAt 0 Lib.deBruijn64tab w:=by
 rw[MakeChecks.laidMetH_plain _ _ _ zab]at h
 have h':laidMet Tryd.prog [("math/bits.deBruijn64tab",Lib.tabData .u8 (Lib.deBruijn64tab.map fun(x:Nat)=>(x:Int)))] w:=h;intro j hj;have e:=(Lib.tabIs_of_head (g:=0) zab zab Tryd.underlying112 Tryd.underlying5 zab zab h').cell (g:=0) zab j (by simpa using hj);rw[e];simp[List.getD_eq_getElem?_getD,List.getElem?_eq_getElem hj]
set_option maxRecDepth 100000 in
theorem lifted(os:Os)(started:os.Started)(H:Type)(enc:TypeId×Value→H):
 ReturnsInHanded {} Tryd.checked os 8 .any (fun w args=>(Rows.verdictFreshSpec.pre enc Tryd.prog Tryd.f8 [] false w args∧laidMetH Tryd.prog [("math/bits.deBruijn64tab",Rows.laid_math_bits_deBruijn64tab)] w)∧sizedMet enc Tryd.prog Tryd.f8 (OpenSpec.ofChange Rows.verdictFreshSpec) false w args) (Rows.verdictFreshSpec.post enc Tryd.prog Tryd.f8 false true false false):=by
 refine returnsInHanded_of_change_and (C:=Tryd.checked) (X:=fun w _=>laidMetH Tryd.prog [("math/bits.deBruijn64tab",Rows.laid_math_bits_deBruijn64tab)] w) (fun _ _ _ hh h=>h.of_heap hh) own started zab Tryd.func8
  (ChangeSpec.witness_shaped (enc:=enc) (C:=Tryd.checked) (os:=os) (X:=fun w _=>laidMetH Tryd.prog [("math/bits.deBruijn64tab",Rows.laid_math_bits_deBruijn64tab)] w) false (World.doorLaid Tryd.prog 14 os) #[.agg #[(.int .i64 0),(.int .i64 0),(.slice none 0 0)],.int .u64 0] 8 rfl (World.shaped_of_RefB zab zab) zab zab zab (door_met os _)) ?_
 intro W base args ds gs before D hW hcnd J hL _;have hsz:(DataW.weightsEach Tryd.prog (Tryd.f8.params.toList++Rows.verdictFreshSpec.plain.varTypes Tryd.prog) (ds++gs)).all (· ≤reachBytes)=true:=J;have hval: ∀(j:Nat) t v,Tryd.f8.params[j]? =some t→args[j]? =some v→Value.okWide Tryd.prog W .any base t v:=D;have hW':=hW;obtain⟨p,q,U,hV,rfl,hfz,hnd⟩:=hW;have hA:DataW.TrodAll enc Tryd.prog W 0 (fun _=>true) true Tryd.f8.params.toList args.toList ds p:=U;rw[Tryd.params8]at hA hval hsz
 obtain⟨v0,ah,d0,af,p0,q0,hargs,rfl,rfl,h0,r0⟩:=trodAll_cons hA;obtain⟨v1,ai,d1,ag,p1,q1,rfl,rfl,rfl,h1,r1⟩:=trodAll_cons r0;obtain⟨rfl,rfl,rfl⟩:=trodAll_nil r1;obtain rfl:args= #[v0,v1]:=by cases args;simp_all
 obtain⟨rfl,rfl⟩:=trodVars_none hV;obtain⟨x0,aa,ac⟩:=opens0.arg hsz (j:=0) rfl rfl h0;obtain⟨Z,rfl,_⟩:=okWide_struct Tryd.underlying24 (hval 0 24 v0 rfl rfl);obtain⟨G,I,e0,Y,O⟩:=Q.k24_open aa;obtain rfl:Z= #[.int .i64 x0.f0,.int .i64 x0.f1,.slice G x0.f2.length I]:=Array.toList_inj.1 e0;obtain⟨x1,ab,ae⟩:=opens1.arg hsz (j:=1) rfl rfl h1;obtain⟨a1,rfl,rfl,rfl,_⟩:=open_int Tryd.underlying26 (hval 1 26 v1 rfl rfl) h1;obtain rfl:a1=x1:=by simpa[Value.cells,Kd.int,Kd.scalar]using ab
 clear U D J hsz;obtain⟨k,hp⟩:=Pure.VerdictFresh x0 ac a1 ae;refine(Q.recouplaw18_VerdictFresh.calls k x0.f0 x0.f1 G I x0.f2 a1 true W O Y hp (tab_of hL)).mono fun e W' ⟨he,L⟩=>?_;have bel:=L;subst he;exact⟨_,rfl,_,_,_,[],_,[],hW',trodAll_mk1 (shut_bool Tryd.underlying4 _),(trodAll_cons_mk (Below.trod laidOut zab (of_decide_eq_true zab) h0 bel (Open.trod_lt_of h0)) (trodAll_cons_mk (Below.trod laidOut zab (of_decide_eq_true zab) h1 bel (Open.trod_lt_of h1)) trodAll_mk0)),rfl,bel.frame _,fun h=>by cases h⟩
theorem over:Rows.verdictFreshRow.holds Tryd.pinned (OpenSpec.ofChange Rows.verdictFreshSpec):=
 OpenClaim.holds_of_wide 8 Tryd.f8 rfl rfl rfl rfl rfl rfl rfl ⟨rfl,rfl,rfl,rfl,rfl⟩ rfl rfl rfl rfl rfl zab Tryd.func8 zab
  (of_decide_eq_true zab) (by unfold Func.isWrapper;first|(rw[if_pos (by decide+kernel)];kernel_rfl)|(rw[if_neg (by decide+kernel)];exact⟨rfl,rfl⟩))
  (fun os started H enc _=>lifted os started H enc)
theorem proved:Rows.VerdictFreshSaid:=over
end Go.Proofs.YtkagobkedifhkaaDoor.verdictFresh
namespace Go.Proofs.YtkagobkedifhkaaDoor
theorem verdictFresh_holds:Rows.VerdictFreshCardSaid:=
 Claim7.holds_tied_plain_at .later [] [.data] true (true,"163fb2a85cf09980fcccfd9cca19cb58add400127178a40a6a014b58d1514209") false
  verdictFresh.proved (fun _ h=>by cases h) zab (fun _ h=>by cases h) verdictFresh_row_tie rfl ⟨rfl,rfl⟩ zab rfl
  (fun f fn hf hfn=>by
    obtain rfl:f=8:=Option.some.inj ((show Tryd.prog.funcNamed "recoup/recouplaw18.VerdictFresh" =some 8 by kernel_rfl).symm.trans hf) |>.symm
    obtain rfl:fn=Tryd.f8:=(Option.some.inj (Tryd.func8.symm.trans hfn)).symm;exact⟨by kernel_rfl,fun j t ht=>by
     rw[Tryd.params8]at ht
     have hm:t∈ [24,26]:=by simpa using Array.mem_of_getElem? ht
     have hall:([24,26].all fun u=> !Tryd.prog.wantsStandIn u)=true:=by kernel_rfl
     exact(show Tryd.prog.wantsStandIn t=false by simpa using List.all_eq_true.1 hall t hm)⟩)
  zab
end Go.Proofs.YtkagobkedifhkaaDoor
