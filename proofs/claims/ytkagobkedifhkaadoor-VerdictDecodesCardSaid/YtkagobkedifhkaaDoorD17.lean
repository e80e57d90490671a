/- The row VerdictDecodes: the Go law answers true at every input that its guards let in; no condition of its own. -/
import Derived.OpenShut
import Derived.WideShapes
import Derived.Deep.Slices
import Derived.Test.YtkagobkedifhkaaDoorRows
import Derived.LaidMore
import Derived.Lib.LaidTab
import Derived.SevenTiedAt
import Derived.Test.YtkagobkedifhkaaDoorCards
import Derived.Test.YtkagobkedifhkaaDoorTie
import Derived.ProofKit
import Derived.ShutString
import Derived.ChangeOld
import Derived.Test.YtkagobkedifhkaaDoorD16
namespace Go.Proofs.YtkagobkedifhkaaDoor.Open
open Go.RowKit Go.Deep Go.Proofs.YtkagobkedifhkaaDoorW.PrintWords
def Sz{H:Type}(P:Program)(t:TypeId)(d:DataW H):Prop:= ∀n∈d.weights P t,n≤reachBytes
structure Opens {α:Type} (P:Program) (t:TypeId) (d:Kd α) (well:α→Prop):Prop where
 cells:P.cellsOf t=d.sz
 run: ∀ {H:Type} (enc:TypeId×Value→H) (W:World) (n:Nat) (cs:List Value) (y:DataW H×List MemPlace),
  DataW.trod enc P W 0 (fun _=>true) true n t cs=some y→Sz P t y.1→ ∃x,d.K W x cs∧well x
theorem opens_int{P:Program}{t:TypeId}{k:IntKind}(ht:P.underlying t=some (.int k))(hc:P.cellsOf t=1):Opens P t (Kd.int k) (fun x=>(Lit.int k x).wf=true):=by
 refine⟨hc,fun enc W n cs y h _=>?_⟩;obtain⟨a,rfl,rfl,hw⟩:=DataW.trod_int ht h;exact⟨a,rfl,hw⟩
theorem weightsAll_mem{H:Type}{P:Program}{e:TypeId} : ∀ {l:List (DataW H)} {d:DataW H},d∈l→ ∀n∈d.weights P e,n∈DataW.weightsAll P e l
 |a::l,d,hd,n,hn=>by
  rw[DataW.weightsAll];rcases List.mem_cons.1 hd with rfl|hd
  ·exact List.mem_append_left _ hn
  ·exact List.mem_append_right _ (weightsAll_mem hd n hn)
theorem opens_slice{α:Type}{P:Program}{t e:TypeId}{d:Kd α}{well:α→Prop}{B:Nat}(ht:P.underlying t=some (.slice e))(hc:P.cellsOf t=1)(hB:P.bytesOf e=B)(z:α)(h:Opens P e d well):
 Opens P t (Kd.slice e d) (fun l=>l.length≤maxLen∧l.length*B≤140737488351232∧ ∀x∈l,well x):=by
 refine⟨hc,fun enc W n cs y hy hz=>?_⟩;rcases open_slice ht hy with⟨rfl,rfl⟩|⟨a,len,cap,m,n',D,Pl,rfl,_,hl,hm,hmm,rfl,hx⟩
 ·exact⟨[],⟨none,0,rfl,Nat.le_refl _,rfl,by simp,fun hn=>absurd hn zd⟩,by simp,by simp,by simp⟩
 have hm':len≤m:=by rw[hmm];split<;>omega
 have:Inhabited α:=⟨z⟩
 have hw: ∀i,i<len→ ∃x,(∃cs',W.cells? 0 (a.add (i*P.cellsOf e)) (P.cellsOf e)=some cs'∧d.K W x cs')∧well x:=by
  intro i hi;obtain⟨cs',h1,h2⟩:=hx i za;obtain⟨x,k,w⟩:=h.run enc W n' cs' _ h2 (fun q hq=>by
   refine hz q ?_;simp only[DataW.weights,ht];refine List.mem_cons_of_mem _ (List.mem_append_left _ (weightsAll_mem (d:=D i) ?_ q hq));exact List.mem_map.2 ⟨i,by simpa using hi,rfl⟩)
  exact⟨x,⟨cs',h1,k⟩,w⟩
 obtain⟨V,hV⟩:=choose_lt hw;have hlen:((List.range len).map V).length=len:=by simp
 have hb:len*B≤140737488351232:=by
  have:=hz ((((List.range len).map D).length+((List.range (m-len)).map fun j=>D (len+j)).length)*P.bytesOf e) (by simp only[DataW.weights,ht];exact List.mem_cons_self);rw[hB]at this
  simp only[List.length_map,List.length_range]at this;exact Nat.le_trans (Nat.mul_le_mul_right _ za) this
 have hmx:maxLen=9223372036854775807:=by decide
 refine⟨(List.range len).map V,⟨some a,cap,by rw[hlen],by rw[hlen];exact hl,rfl,by rw[hlen];omega,fun _=>⟨a,rfl,fun j p hj=>?_⟩⟩,by rw[hlen];omega,by rw[hlen];exact hb,?_⟩
 ·obtain⟨G,I⟩:=List.getElem?_eq_some_iff.1 hj;have hjl:j<len:=by simpa using G
  have hp:p=V j:=by simpa using I.symm
  subst hp;obtain⟨⟨cs',h1,k⟩,_⟩:=hV j hjl;obtain⟨_,hcl,hcell⟩:=World.cells?_some h1;refine⟨cs',d.K_len k,k,fun i u hu=>?_⟩;have hi:i<P.cellsOf e:=by rw[←hcl];exact(List.getElem?_eq_some_iff.1 hu).1
  rw[←h.cells,←Addr.add_add,hcell i hi];exact hu
 ·intro x hx;obtain⟨i,hi,rfl⟩:=List.mem_map.1 hx;exact(hV i (by simpa using hi)).2
structure OpensF {α:Type} (P:Program) (fs:List Field) (off:Nat) (d:Kd α) (well:α→Prop):Prop where
 run: ∀ {H:Type} (enc:TypeId×Value→H) (W:World) (n:Nat) (cs:List Value) (xs:List (DataW H×List MemPlace)),cs.length=off+d.sz→
  (∀(i:Nat) (f:Field),fs[i]? =some f→DataW.trod enc P W 0 (fun _=>true) true n f.type ((cs.drop f.offset).take (P.cellsOf f.type))=xs[i]?)→xs.length=fs.length→
  (∀q∈DataW.weightsEach P (fs.map (·.type)) (xs.map (·.1)),q≤reachBytes)→ ∃x,d.K W x (cs.drop off)∧well x
theorem OpensF.one{α:Type}{P:Program}{f:Field}{off:Nat}{d:Kd α}{well:α→Prop}(ho:f.offset=off)(h:Opens P f.type d well):OpensF P [f] off d well:=by
 refine⟨?_⟩;intro H enc W n cs xs hl hf hx hz;obtain⟨y,rfl⟩: ∃y,xs= [y]:=List.length_eq_one_iff.1 hx;have h0:=hf 0 f rfl;rw[ho,List.take_of_length_le (by rw[List.length_drop,h.cells];omega)]at h0
 exact h.run enc W n _ y h0 (fun q hq=>hz q (by simpa[DataW.weightsEach]using hq))
theorem OpensF.cons{α β:Type}{P:Program}{f:Field}{fs:List Field}{off:Nat}{d:Kd α}{d':Kd β}{well:α→Prop}{well':β→Prop}(ho:f.offset=off)(h:Opens P f.type d well)(h':OpensF P fs (off+d.sz) d' well'):
 OpensF P (f::fs) off (Kd.pair d d') (fun x=>well x.1∧well' x.2):=by
 refine⟨?_⟩;intro H enc W n cs xs hl hf hx hz
 match xs,hx with
 |y::ys,hx=>
  have hl':cs.length=off+(d.sz+d'.sz):=hl;have h0:=hf 0 f rfl;rw[ho]at h0
  obtain⟨x,k,w⟩:=h.run enc W n _ y h0 (fun q hq=>hz q (by simp[DataW.weightsEach,hq]));obtain⟨x',k',w'⟩:=h'.run enc W n cs ys za (fun i g hg=>hf (i+1) g hg) (by simpa using hx) (fun q hq=>hz q (by simp only[List.map_cons,DataW.weightsEach];exact List.mem_append_right _ hq));rw[h.cells]at k
  refine⟨(x,x'),⟨_,_,?_,k,k'⟩,w,w'⟩;rw[←List.drop_drop,List.take_append_drop]
theorem Opens.struct{α β:Type}{P:Program}{t:TypeId}{fs:Array Field}{d:Kd α}{well:α→Prop}{f:β→α}(ht:P.underlying t=some (.struct fs))(hc:P.cellsOf t=d.sz)(hs: ∀a,∃b,f b=a)(h:OpensF P fs.toList 0 d well):
 Opens P t (Kd.iso d f) (fun x=>well (f x)):=by
 refine⟨hc,fun enc W n cs y hy hz=>?_⟩;obtain⟨xs,m,_,rfl,hl,hx,hf⟩:=DataW.trod_struct ht hy;obtain⟨x,k,w⟩:=h.run enc W m cs xs (by rw[hl,hc,Nat.zero_add]) (fun i g hg=>hf i g (by simpa using hg)) (by simpa using hx) (fun q hq=>hz q (by simp only[DataW.weights,ht];exact hq));obtain⟨b,rfl⟩:=hs x;rw[List.drop_zero]at k
 exact⟨b,k,w⟩
theorem sz_of{H:Type}{P:Program}{ts:List TypeId}{ds:List (DataW H)}{j:Nat}{t:TypeId}{d:DataW H}(hsz:(DataW.weightsEach P ts ds).all (· ≤reachBytes)=true)(ht:ts[j]? =some t)(hd:ds[j]? =some d):Sz P t d:=
 fun n hn=>by simpa using List.all_eq_true.1 hsz n (DataW.weights_mem_each ht hd n hn)
theorem Opens.arg{α:Type}{P:Program}{t:TypeId}{d:Kd α}{well:α→Prop}(h:Opens P t d well){H:Type}{enc:TypeId×Value→H}{W:World}{v:Value}{y:DataW H}{ps:List MemPlace}{ts:List TypeId}{ds:List (DataW H)}{j:Nat}
 (hsz:(DataW.weightsEach P ts ds).all (· ≤reachBytes)=true) (ht:ts[j]? =some t) (hd:ds[j]? =some y) (hv:DataW.Trod enc P W 0 (fun _=>true) true t v y ps): ∃x,d.K W x v.cells.toList∧well x:=by
 obtain⟨n,hn⟩:=hv;exact h.run enc W n _ _ hn (sz_of hsz ht hd)
theorem trod_lt_of{H:Type}{enc:TypeId×Value→H}{P:Program}{W:World}{t:TypeId}{v:Value}{y:DataW H}{ps:List MemPlace}(hv:DataW.Trod enc P W 0 (fun _=>true) true t v y ps): ∀x∈ps,x.block<W.heap.size:=by
 obtain⟨m,hm⟩:=hv;exact DataW.trod_lt m _ _ _ hm
end Go.Proofs.YtkagobkedifhkaaDoor.Open
namespace Go.Proofs.YtkagobkedifhkaaDoor.verdictDecodes
open Go.ChangeShapes Go.WideShapes Go.ChangeAt Go.RowKit Go.Proofs.YtkagobkedifhkaaDoorW.PrintWords
set_option linter.unusedVariables false
theorem own:ownKnob Tryd.prog.godebug=none:=by kernel_rfl
theorem laidOut:laidOutB Tryd.prog=true:=by kernel_rfl
theorem opens0:Open.Opens Tryd.prog 24 Q.k24 (fun x=>((Lit.int .i64 x.f0).wf=true∧((Lit.int .i64 x.f1).wf=true∧(x.f2.length≤maxLen∧x.f2.length*1≤140737488351232∧ ∀x4∈x.f2,(Lit.int .u8 x4).wf=true)))):=(Open.Opens.struct (d:=(Kd.pair (Kd.int .i64) (Kd.pair (Kd.int .i64) (Kd.slice 5 (Kd.int .u8))))) (f:=fun x:Q.S24=>(x.f0,x.f1,x.f2)) Tryd.underlying24 zb (fun a=>⟨⟨a.1,a.2.1,a.2.2⟩,rfl⟩) (Open.OpensF.cons rfl (Open.opens_int Tryd.underlying3 zb) (Open.OpensF.cons rfl (Open.opens_int Tryd.underlying3 zb) (Open.OpensF.one rfl (Open.opens_slice Tryd.underlying22 zb zb (0:Int) (Open.opens_int Tryd.underlying5 zb))))))
theorem opens1:Open.Opens Tryd.prog 26 (Kd.int .u64) (fun x=>(Lit.int .u64 x).wf=true):=(Open.opens_int Tryd.underlying26 zb)
set_option maxRecDepth 100000 in
theorem door_met(os:Os)(args:Array Value):laidMetH Tryd.prog [("math/bits.deBruijn64tab",Rows.laid_math_bits_deBruijn64tab)] ((World.doorLaid Tryd.prog 14 os).forCall (fun _ _=>0) ⟨#[],args,[]⟩).memory:=
 laidMetH_of_parts3 (fuel:=8) (laidMet_of_run' 8 zb zb) zb zb
theorem tab_of{w:World}(h:laidMetH Tryd.prog [("math/bits.deBruijn64tab",Rows.laid_math_bits_deBruijn64tab)] w):TabAt 0 Lib.deBruijn64tab w:=by
 rw[MakeChecks.laidMetH_plain _ _ _ zb]at h
 have h':laidMet Tryd.prog [("math/bits.deBruijn64tab",Lib.tabData .u8 (Lib.deBruijn64tab.map fun(x:Nat)=>(x:Int)))] w:=h;intro j hj;have e:=(Lib.tabIs_of_head (g:=0) zb zb Tryd.underlying112 Tryd.underlying5 zb zb h').cell (g:=0) zb j (by simpa using hj);rw[e];simp[List.getD_eq_getElem?_getD,List.getElem?_eq_getElem hj]
set_option maxRecDepth 100000 in
theorem lifted(os:Os)(started:os.Started)(H:Type)(enc:TypeId×Value→H):
 ReturnsInHanded {} Tryd.checked os 6 .any (fun w args=>(Rows.verdictDecodesSpec.pre enc Tryd.prog Tryd.f6 [] false w args∧laidMetH Tryd.prog [("math/bits.deBruijn64tab",Rows.laid_math_bits_deBruijn64tab)] w)∧sizedMet enc Tryd.prog Tryd.f6 (OpenSpec.ofChange Rows.verdictDecodesSpec) false w args) (Rows.verdictDecodesSpec.post enc Tryd.prog Tryd.f6 false true false false):=by
 refine returnsInHanded_of_change_and (C:=Tryd.checked) (X:=fun w _=>laidMetH Tryd.prog [("math/bits.deBruijn64tab",Rows.laid_math_bits_deBruijn64tab)] w) (fun _ _ _ hh h=>h.of_heap hh) own started zb Tryd.func6
  (ChangeSpec.witness_shaped (enc:=enc) (C:=Tryd.checked) (os:=os) (X:=fun w _=>laidMetH Tryd.prog [("math/bits.deBruijn64tab",Rows.laid_math_bits_deBruijn64tab)] w) false (World.doorLaid Tryd.prog 14 os) #[.agg #[(.int .i64 0),(.int .i64 0),(.slice none 0 0)],.int .u64 0] 8 rfl (World.shaped_of_RefB zb zb) zb zb zb (door_met os _)) ?_
 intro W base args ds gs before D hW hcnd J hL _;have hsz:(DataW.weightsEach Tryd.prog (Tryd.f6.params.toList++Rows.verdictDecodesSpec.plain.varTypes Tryd.prog) (ds++gs)).all (· ≤reachBytes)=true:=J;have hval: ∀(j:Nat) t v,Tryd.f6.params[j]? =some t→args[j]? =some v→Value.okWide Tryd.prog W .any base t v:=D;have hW':=hW;obtain⟨p,q,U,hV,rfl,hfz,hnd⟩:=hW;have hA:DataW.TrodAll enc Tryd.prog W 0 (fun _=>true) true Tryd.f6.params.toList args.toList ds p:=U;rw[Tryd.params6]at hA hval hsz
 obtain⟨v0,ah,d0,af,p0,q0,hargs,rfl,rfl,h0,r0⟩:=trodAll_cons hA;obtain⟨v1,ai,d1,ag,p1,q1,rfl,rfl,rfl,h1,r1⟩:=trodAll_cons r0;obtain⟨rfl,rfl,rfl⟩:=trodAll_nil r1;obtain rfl:args= #[v0,v1]:=by cases args;simp_all
 obtain⟨rfl,rfl⟩:=trodVars_none hV;obtain⟨x0,aa,ac⟩:=opens0.arg hsz (j:=0) rfl rfl h0;obtain⟨Z,rfl,_⟩:=okWide_struct Tryd.underlying24 (hval 0 24 v0 rfl rfl);obtain⟨G,I,e0,Y,O⟩:=Q.k24_open aa;obtain rfl:Z= #[.int .i64 x0.f0,.int .i64 x0.f1,.slice G x0.f2.length I]:=Array.toList_inj.1 e0;obtain⟨x1,ab,ae⟩:=opens1.arg hsz (j:=1) rfl rfl h1;obtain⟨a1,rfl,rfl,rfl,_⟩:=open_int Tryd.underlying26 (hval 1 26 v1 rfl rfl) h1;obtain rfl:a1=x1:=by simpa[Value.cells,Kd.int,Kd.scalar]using ab
 clear U D J hsz;obtain⟨k,hp⟩:=Pure.VerdictDecodes x0 ac a1 ae;refine(Q.recouplaw18_VerdictDecodes.calls k x0.f0 x0.f1 G I x0.f2 a1 true W O Y hp (tab_of hL)).mono fun e W' ⟨he,L⟩=>?_;have bel:=L;subst he;exact⟨_,rfl,_,_,_,[],_,[],hW',trodAll_mk1 (shut_bool Tryd.underlying4 _),(trodAll_cons_mk (Below.trod laidOut zb (of_decide_eq_true zb) h0 bel (Open.trod_lt_of h0)) (trodAll_cons_mk (Below.trod laidOut zb (of_decide_eq_true zb) h1 bel (Open.trod_lt_of h1)) trodAll_mk0)),rfl,bel.frame _,fun h=>by cases h⟩
theorem over:Rows.verdictDecodesRow.holds Tryd.pinned (OpenSpec.ofChange Rows.verdictDecodesSpec):=
 OpenClaim.holds_of_wide 6 Tryd.f6 rfl rfl rfl rfl rfl rfl rfl ⟨rfl,rfl,rfl,rfl,rfl⟩ rfl rfl rfl rfl rfl zb Tryd.func6 zb
  (of_decide_eq_true zb) (by unfold Func.isWrapper;first|(rw[if_pos (by decide+kernel)];kernel_rfl)|(rw[if_neg (by decide+kernel)];exact⟨rfl,rfl⟩))
  (fun os started H enc _=>lifted os started H enc)
theorem proved:Rows.VerdictDecodesSaid:=over
end Go.Proofs.YtkagobkedifhkaaDoor.verdictDecodes
namespace Go.Proofs.YtkagobkedifhkaaDoor
theorem verdictDecodes_holds:Rows.VerdictDecodesCardSaid:=
 Claim7.holds_tied_plain_at .later [] [.data] true (true,"163fb2a85cf09980fcccfd9cca19cb58add400127178a40a6a014b58d1514209") false
  verdictDecodes.proved (fun _ h=>by cases h) zb (fun _ h=>by cases h) verdictDecodes_row_tie rfl ⟨rfl,rfl⟩ zb rfl
  (fun f fn hf hfn=>by
    obtain rfl:f=6:=Option.some.inj ((show Tryd.prog.funcNamed "recoup/recouplaw18.VerdictDecodes" =some 6 by kernel_rfl).symm.trans hf) |>.symm
    obtain rfl:fn=Tryd.f6:=(Option.some.inj (Tryd.func6.symm.trans hfn)).symm;exact⟨by kernel_rfl,fun j t ht=>by
     rw[Tryd.params6]at ht
     have hm:t∈ [24,26]:=by simpa using Array.mem_of_getElem? ht
     have hall:([24,26].all fun u=> !Tryd.prog.wantsStandIn u)=true:=by kernel_rfl
     exact(show Tryd.prog.wantsStandIn t=false by simpa using List.all_eq_true.1 hall t hm)⟩)
  zb
end Go.Proofs.YtkagobkedifhkaaDoor
