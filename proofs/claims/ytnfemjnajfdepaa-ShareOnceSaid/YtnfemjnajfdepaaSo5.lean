/- The row ShareOnce: the Go law answers true at every input that its guards let in; no condition of its own. -/
import Derived.OpenShut
import Derived.WideShapes
import Derived.Deep.Slices
import Derived.Test.YtnfemjnajfdepaaRows
import Derived.ProofKit
import Derived.ShutString
import Derived.ChangeOld
import Derived.Test.YtnfemjnajfdepaaSo4
set_option maxHeartbeats 16000000
set_option maxRecDepth 100000
set_option linter.unusedVariables false
set_option linter.unusedSimpArgs false
namespace Go.Proofs.Ytnfemjnajfdepaa.M
open RowKit YtnfemjnajfdepaaW.PrintWords YtnfemjnajfdepaaW.PrintLast YtnfemjnajfdepaaW.PrintMore Q
theorem nodeT_len(own:Int)(q:Key)(l:List S61):(nodeT own q l).length<=l.length+1:=by
 unfold nodeT
 split
 ·rw[insT_len,List.length_map];have:=drop_len q l;omega
 ·rw[List.length_map];omega
theorem takL_len(ins:List Int)(q:Key)(L:List (List S61)):(takL ins q L).length=L.length+1:=by
 have:=congrArg List.length (ahead_behind q L);rw[List.length_append]at this
 unfold takL;rw[List.length_append,List.length_cons,List.length_map];omega
theorem takL_each{ins:List Int}{q:Key}{L:List (List S61)}{m:Nat}(hm:2<=m)(h: ∀l∈L,l.length<=m): ∀l∈takL ins q L,l.length<=m+1:=by
 intro x hx;have he:=ahead_behind q L;unfold takL at hx;rcases List.mem_append.1 hx with hx|hx
 ·have:=h x (by rw[he];simp[hx]);omega
 ·rcases List.mem_cons.1 hx with rfl|hx
  ·show 2<=_;omega
  ·obtain⟨y,hy,rfl⟩:=List.mem_map.1 hx;have h1:=nodeT_len (ownV ins q L) q y;have h2:=h y (by rw[he];simp[hy]);omega
theorem onceV_len{ins outs:List Int}{L:List (List S61)}(hi:ins.length<=17592186043904)(ho:outs.length<=17592186043904)(hL:L.length<=5864062014634)(hl: ∀l∈L,l.length<=8796093021952):
 (onceV ins L outs).1.length<=17592186043904/\(onceV ins L outs).2.1.length<=5864062014635/\(onceV ins L outs).2.2.1.length<=17592186043904/\ ∀l∈(onceV ins L outs).2.1,l.length<=8796093021953:=by
 unfold onceV
 split
 ·split
  ·refine⟨hi,?_,?_,?_⟩
   ·show(takL _ _ _).length<=_;rw[takL_len];omega
   ·show(takO _ _ _ _).length<=_;unfold takO;rw[List.length_map];exact ho
   ·exact takL_each zaa hl
  ·exact⟨hi,by show L.length<=_;omega,ho,fun l h=>by have:=hl l h;omega⟩
 ·exact⟨by decide,by decide,by decide,fun l h=>absurd h zac⟩
end Go.Proofs.Ytnfemjnajfdepaa.M
namespace Go.Proofs.Ytnfemjnajfdepaa.Pure
open RowKit YtnfemjnajfdepaaW.PrintWords YtnfemjnajfdepaaW.PrintLast YtnfemjnajfdepaaW.PrintMore Q
theorem ShareOnce: ∀x0:Q.S25,((x0.f0.length<=maxLen/\x0.f0.length*8<=140737488351232/\ ∀x5∈x0.f0,(Lit.int .i64 x5).wf=true)/\((x0.f1.length<=maxLen/\x0.f1.length*24<=140737488351232/\ ∀x5∈x0.f1,(x5.length<=maxLen/\x5.length*16<=140737488351232/\ ∀x2∈x5,((Lit.int .i64 x2.f0).wf=true/\(Lit.int .u8 x2.f1).wf=true)))/\(x0.f2.length<=maxLen/\x0.f2.length*8<=140737488351232/\ ∀x5∈x0.f2,(Lit.int .i64 x5).wf=true)))-> ∃k,Q.recouplaw22_ShareOnce.f k x0.f0 x0.f1 x0.f2=some true:=by
 rintro⟨ins,L,outs⟩ ⟨⟨_,h1,_⟩,⟨_,h2,h3⟩,⟨_,h4,_⟩⟩
 dsimp only at h1 h2 h3 h4⊢
 have hi:ins.length<=17592186043904:=by omega
 have ho:outs.length<=17592186043904:=by omega
 have hL:L.length<=5864062014634:=by omega
 have hl: ∀l∈L,l.length<=8796093021952:=fun l hx=>by have:=(h3 l hx).2.1;omega
 have hw: ∀l∈L,∀t∈l,okT t=true:=fun l hx t ht=>by
  obtain⟨w1,w2⟩:=(h3 l hx).2.2 t ht;unfold okT;rw[w1,w2];rfl
 obtain⟨ha,hb⟩:=M.once_both hi ho hL hl hw;obtain⟨e1,e2,e3,e4⟩:=M.onceV_len hi ho hL hl;refine M.Ends.exists (g:=fun k=>recouplaw22_ShareOnce.f k ins L outs) ?_;unfold recouplaw22_ShareOnce.f;refine M.Ends.bind ha ?_;refine M.Ends.bind hb ?_;refine M.Ends.bind (M.same_ends zaa zaa zaa (fun l hx=>by have:=e4 l hx;omega)) ?_;refine M.Ends.pos rfl ?_;refine M.Ends.pos (beq_self_eq_true _) ?_;exact M.Ends.const (congrArg some (beq_self_eq_true _))
end Go.Proofs.Ytnfemjnajfdepaa.Pure
namespace Go.Proofs.Ytnfemjnajfdepaa.Open
open RowKit Go.Deep YtnfemjnajfdepaaW.PrintWords
def Sz{H:Type}(P:Program)(t:TypeId)(d:DataW H):Prop:= ∀n∈d.weights P t,n<=reachBytes
structure Opens {α:Type} (P:Program) (t:TypeId) (d:Kd α) (well:α->Prop):Prop where
 cells:P.cellsOf t=d.sz
 run: ∀ {H:Type} (enc:TypeId×Value->H) (W:World) (n:Nat) (cs:List Value) (y:DataW H×List MemPlace),
  DataW.trod enc P W 0 (fun _=>true) true n t cs=some y->Sz P t y.1-> ∃x,d.K W x cs/\well x
theorem opens_int{P:Program}{t:TypeId}{k:IntKind}(ht:P.underlying t=some (.int k))(hc:P.cellsOf t=1):Opens P t (Kd.int k) (fun x=>(Lit.int k x).wf=true):=by
 refine⟨hc,fun enc W n cs y h _=>?_⟩;obtain⟨a,rfl,rfl,hw⟩:=DataW.trod_int ht h;exact⟨a,rfl,hw⟩
theorem weightsAll_mem{H:Type}{P:Program}{e:TypeId} : ∀ {l:List (DataW H)} {d:DataW H},d∈l-> ∀n∈d.weights P e,n∈DataW.weightsAll P e l
 |a::l,d,hd,n,hn=>by
  rw[DataW.weightsAll];rcases List.mem_cons.1 hd with rfl|hd
  ·exact List.mem_append_left _ hn
  ·exact List.mem_append_right _ (weightsAll_mem hd n hn)
theorem opens_slice{α:Type}{P:Program}{t e:TypeId}{d:Kd α}{well:α->Prop}{B:Nat}(ht:P.underlying t=some (.slice e))(hc:P.cellsOf t=1)(hB:P.bytesOf e=B)(z:α)(h:Opens P e d well):
 Opens P t (Kd.slice e d) (fun l=>l.length<=maxLen/\l.length*B<=140737488351232/\ ∀x∈l,well x):=by
 refine⟨hc,fun enc W n cs y hy hz=>?_⟩;rcases open_slice ht hy with⟨rfl,rfl⟩|⟨a,len,cap,m,n',D,Pl,rfl,_,hl,hm,hmm,rfl,hx⟩
 ·exact⟨[],⟨none,0,rfl,Nat.le_refl _,rfl,by simp,fun hn=>absurd hn zac⟩,by simp,by simp,by simp⟩
 have hm':len<=m:=by rw[hmm];split<;>omega
 have:Inhabited α:=⟨z⟩
 have hw: ∀i,i<len-> ∃x,(∃cs',W.cells? 0 (a.add (i*P.cellsOf e)) (P.cellsOf e)=some cs'/\d.K W x cs')/\well x:=by
  intro i hi;obtain⟨cs',h1,h2⟩:=hx i zaa;obtain⟨x,k,w⟩:=h.run enc W n' cs' _ h2 (fun q hq=>by
   refine hz q ?_;simp only[DataW.weights,ht];refine List.mem_cons_of_mem _ (List.mem_append_left _ (weightsAll_mem (d:=D i) ?_ q hq));exact List.mem_map.2 ⟨i,by simpa using hi,rfl⟩)
  exact⟨x,⟨cs',h1,k⟩,w⟩
 obtain⟨V,hV⟩:=choose_lt hw;have hlen:((List.range len).map V).length=len:=by simp
 have hb:len*B<=140737488351232:=by
  have:=hz ((((List.range len).map D).length+((List.range (m-len)).map fun j=>D (len+j)).length)*P.bytesOf e) (by simp only[DataW.weights,ht];exact List.mem_cons_self);rw[hB]at this
  simp only[List.length_map,List.length_range]at this;exact Nat.le_trans (Nat.mul_le_mul_right _ zaa) this
 have hmx:maxLen=9223372036854775807:=by decide
 refine⟨(List.range len).map V,⟨some a,cap,by rw[hlen],by rw[hlen];exact hl,rfl,by rw[hlen];omega,fun _=>⟨a,rfl,fun j p hj=>?_⟩⟩,by rw[hlen];omega,by rw[hlen];exact hb,?_⟩
 ·obtain⟨G,I⟩:=List.getElem?_eq_some_iff.1 hj;have hjl:j<len:=by simpa using G
  have hp:p=V j:=by simpa using I.symm
  subst hp;obtain⟨⟨cs',h1,k⟩,_⟩:=hV j hjl;obtain⟨_,hcl,hcell⟩:=World.cells?_some h1;refine⟨cs',d.K_len k,k,fun i u hu=>?_⟩;have hi:i<P.cellsOf e:=by rw[<-hcl];exact(List.getElem?_eq_some_iff.1 hu).1
  rw[<-h.cells,<-Addr.add_add,hcell i hi];exact hu
 ·intro x hx;obtain⟨i,hi,rfl⟩:=List.mem_map.1 hx;exact(hV i (by simpa using hi)).2
structure OpensF {α:Type} (P:Program) (fs:List Field) (off:Nat) (d:Kd α) (well:α->Prop):Prop where
 run: ∀ {H:Type} (enc:TypeId×Value->H) (W:World) (n:Nat) (cs:List Value) (xs:List (DataW H×List MemPlace)),cs.length=off+d.sz->
  (∀(i:Nat) (f:Field),fs[i]? =some f->DataW.trod enc P W 0 (fun _=>true) true n f.type ((cs.drop f.offset).take (P.cellsOf f.type))=xs[i]?)->xs.length=fs.length->
  (∀q∈DataW.weightsEach P (fs.map (·.type)) (xs.map (·.1)),q<=reachBytes)-> ∃x,d.K W x (cs.drop off)/\well x
theorem OpensF.one{α:Type}{P:Program}{f:Field}{off:Nat}{d:Kd α}{well:α->Prop}(ho:f.offset=off)(h:Opens P f.type d well):OpensF P [f] off d well:=by
 refine⟨?_⟩;intro H enc W n cs xs hl hf hx hz;obtain⟨y,rfl⟩: ∃y,xs= [y]:=List.length_eq_one_iff.1 hx;have h0:=hf 0 f rfl;rw[ho,List.take_of_length_le (by rw[List.length_drop,h.cells];omega)]at h0
 exact h.run enc W n _ y h0 (fun q hq=>hz q (by simpa[DataW.weightsEach]using hq))
theorem OpensF.cons{α β:Type}{P:Program}{f:Field}{fs:List Field}{off:Nat}{d:Kd α}{d':Kd β}{well:α->Prop}{well':β->Prop}(ho:f.offset=off)(h:Opens P f.type d well)(h':OpensF P fs (off+d.sz) d' well'):
 OpensF P (f::fs) off (Kd.pair d d') (fun x=>well x.1/\well' x.2):=by
 refine⟨?_⟩;intro H enc W n cs xs hl hf hx hz
 match xs,hx with
 |y::ys,hx=>
  have hl':cs.length=off+(d.sz+d'.sz):=hl;have h0:=hf 0 f rfl;rw[ho]at h0
  obtain⟨x,k,w⟩:=h.run enc W n _ y h0 (fun q hq=>hz q (by simp[DataW.weightsEach,hq]));obtain⟨x',k',w'⟩:=h'.run enc W n cs ys zaa (fun i g hg=>hf (i+1) g hg) (by simpa using hx) (fun q hq=>hz q (by simp only[List.map_cons,DataW.weightsEach];exact List.mem_append_right _ hq));rw[h.cells]at k
  refine⟨(x,x'),⟨_,_,?_,k,k'⟩,w,w'⟩;rw[<-List.drop_drop,List.take_append_drop]
theorem Opens.struct{α β:Type}{P:Program}{t:TypeId}{fs:Array Field}{d:Kd α}{well:α->Prop}{f:β->α}(ht:P.underlying t=some (.struct fs))(hc:P.cellsOf t=d.sz)(hs: ∀a,∃b,f b=a)(h:OpensF P fs.toList 0 d well):
 Opens P t (Kd.iso d f) (fun x=>well (f x)):=by
 refine⟨hc,fun enc W n cs y hy hz=>?_⟩;obtain⟨xs,m,_,rfl,hl,hx,hf⟩:=DataW.trod_struct ht hy;obtain⟨x,k,w⟩:=h.run enc W m cs xs (by rw[hl,hc,Nat.zero_add]) (fun i g hg=>hf i g (by simpa using hg)) (by simpa using hx) (fun q hq=>hz q (by simp only[DataW.weights,ht];exact hq));obtain⟨b,rfl⟩:=hs x;rw[List.drop_zero]at k
 exact⟨b,k,w⟩
theorem sz_of{H:Type}{P:Program}{ts:List TypeId}{ds:List (DataW H)}{j:Nat}{t:TypeId}{d:DataW H}(hsz:(DataW.weightsEach P ts ds).all (· <=reachBytes)=true)(ht:ts[j]? =some t)(hd:ds[j]? =some d):Sz P t d:=
 fun n hn=>by simpa using List.all_eq_true.1 hsz n (DataW.weights_mem_each ht hd n hn)
theorem Opens.arg{α:Type}{P:Program}{t:TypeId}{d:Kd α}{well:α->Prop}(h:Opens P t d well){H:Type}{enc:TypeId×Value->H}{W:World}{v:Value}{y:DataW H}{ps:List MemPlace}{ts:List TypeId}{ds:List (DataW H)}{j:Nat}
 (hsz:(DataW.weightsEach P ts ds).all (· <=reachBytes)=true) (ht:ts[j]? =some t) (hd:ds[j]? =some y) (hv:DataW.Trod enc P W 0 (fun _=>true) true t v y ps): ∃x,d.K W x v.cells.toList/\well x:=by
 obtain⟨n,hn⟩:=hv;exact h.run enc W n _ _ hn (sz_of hsz ht hd)
theorem trod_lt_of{H:Type}{enc:TypeId×Value->H}{P:Program}{W:World}{t:TypeId}{v:Value}{y:DataW H}{ps:List MemPlace}(hv:DataW.Trod enc P W 0 (fun _=>true) true t v y ps): ∀x∈ps,x.block<W.heap.size:=by
 obtain⟨m,hm⟩:=hv;exact DataW.trod_lt m _ _ _ hm
end Go.Proofs.Ytnfemjnajfdepaa.Open
namespace Go.Proofs.Ytnfemjnajfdepaa.shareOnce
open Go.ChangeShapes Go.WideShapes Go.ChangeAt RowKit YtnfemjnajfdepaaW.PrintWords
theorem own:ownKnob Try.prog.godebug=none:=by kernel_rfl
theorem laidOut:laidOutB Try.prog=true:=by kernel_rfl
theorem opens0:Open.Opens Try.prog 25 Q.k25 (fun x=>((x.f0.length<=maxLen/\x.f0.length*8<=140737488351232/\ ∀x4∈x.f0,(Lit.int .i64 x4).wf=true)/\((x.f1.length<=maxLen/\x.f1.length*24<=140737488351232/\ ∀x4∈x.f1,(x4.length<=maxLen/\x4.length*16<=140737488351232/\ ∀x2∈x4,((Lit.int .i64 x2.f0).wf=true/\(Lit.int .u8 x2.f1).wf=true)))/\(x.f2.length<=maxLen/\x.f2.length*8<=140737488351232/\ ∀x4∈x.f2,(Lit.int .i64 x4).wf=true)))):=(Open.Opens.struct (d:=(Kd.pair (Kd.slice 3 (Kd.int .i64)) (Kd.pair (Kd.slice 59 (Kd.slice 61 Q.k61)) (Kd.slice 3 (Kd.int .i64))))) (f:=fun x:Q.S25=>(x.f0,x.f1,x.f2)) Try.underlying25 zad (fun a=>⟨⟨a.1,a.2.1,a.2.2⟩,rfl⟩) (Open.OpensF.cons rfl (Open.opens_slice Try.underlying22 zad zad (0:Int) (Open.opens_int Try.underlying3 zad)) (Open.OpensF.cons rfl (Open.opens_slice Try.underlying23 zad zad [] (Open.opens_slice Try.underlying59 zad zad Q.z61 (Open.Opens.struct (d:=(Kd.pair (Kd.int .i64) (Kd.int .u8))) (f:=fun x:Q.S61=>(x.f0,x.f1)) Try.underlying61 zad (fun a=>⟨⟨a.1,a.2⟩,rfl⟩) (Open.OpensF.cons rfl (Open.opens_int Try.underlying3 zad) (Open.OpensF.one rfl (Open.opens_int Try.underlying5 zad)))))) (Open.OpensF.one rfl (Open.opens_slice Try.underlying22 zad zad (0:Int) (Open.opens_int Try.underlying3 zad))))))
theorem lifted(os:Os)(started:os.Started)(H:Type)(enc:TypeId×Value->H):
 ReturnsInHanded {} Try.checked os 5 .any (Rows.shareOnceSpec.pre6 enc Try.prog Try.f5 Rows.shareOnceRow.domain false) (Rows.shareOnceSpec.post enc Try.prog Try.f5 false true false false):=by
 refine returnsInHanded_of_change_sized (C:=Try.checked) own started zad Try.func5
  (ChangeSpec.witness6 (enc:=enc) (C:=Try.checked) false ⟨#[],#[.agg #[(.slice none 0 0),(.slice none 0 0),(.slice none 0 0)]],[]⟩ 8 zad zad zad zad) ?_
 intro W base args ds gs before D hW hcnd X _;have hsz:(DataW.weightsEach Try.prog (Try.f5.params.toList++Rows.shareOnceSpec.plain.varTypes Try.prog) (ds++gs)).all (· <=reachBytes)=true:=X;have hval: ∀(j:Nat) t v,Try.f5.params[j]? =some t->args[j]? =some v->Value.okWide Try.prog W .any base t v:=D;have hW':=hW;obtain⟨p,q,ac,hV,rfl,hfz,hnd⟩:=hW;have hA:DataW.TrodAll enc Try.prog W 0 (fun _=>true) true Try.f5.params.toList args.toList ds p:=ac;rw[Try.params5]at hA hval hsz
 obtain⟨v0,al,d0,ak,p0,q0,hargs,rfl,rfl,h0,r0⟩:=trodAll_cons hA;obtain⟨rfl,rfl,rfl⟩:=trodAll_nil r0;obtain rfl:args= #[v0]:=by cases args;simp_all
 obtain⟨rfl,rfl⟩:=trodVars_none hV;obtain⟨x0,ai,aj⟩:=opens0.arg hsz (j:=0) rfl rfl h0;obtain⟨ah,rfl,_⟩:=okWide_struct Try.underlying25 (hval 0 25 v0 rfl rfl);obtain⟨G,L,I,O,J,U,e0,ae,Z,af,aa,ag,ab⟩:=Q.k25_open ai;obtain rfl:ah= #[.slice G x0.f0.length L,.slice I x0.f1.length O,.slice J x0.f2.length U]:=Array.toList_inj.1 e0;clear ac D X hsz;obtain⟨k,hp⟩:=Pure.ShareOnce x0 aj;refine(Q.recouplaw22_ShareOnce.calls k G L x0.f0 I O x0.f1 J U x0.f2 true W Z ae aa af ab ag hp).mono fun e W' ⟨he,Y⟩=>?_;have bel:=Y;subst he;exact⟨_,rfl,_,_,_,[],_,[],hW',trodAll_mk1 (shut_bool Try.underlying4 _),(trodAll_cons_mk (Below.trod laidOut zad (of_decide_eq_true zad) h0 bel (Open.trod_lt_of h0)) trodAll_mk0),rfl,bel.frame _,fun h=>by cases h⟩
theorem over:Rows.shareOnceRow.holds Try.pinned (OpenSpec.ofChange Rows.shareOnceSpec):=
 OpenClaim.holds_of_wide 5 Try.f5 rfl rfl rfl rfl rfl rfl rfl ⟨rfl,rfl,rfl,rfl,rfl⟩ rfl rfl rfl rfl rfl zad Try.func5 zad
  (of_decide_eq_true zad) (by unfold Func.isWrapper;first|(rw[if_pos (by decide+kernel)];kernel_rfl)|(rw[if_neg (by decide+kernel)];exact⟨rfl,rfl⟩))
  (fun os started H enc _=>lifted os started H enc)
theorem proved:Rows.ShareOnceSaid:=over
end Go.Proofs.Ytnfemjnajfdepaa.shareOnce
namespace Go.Proofs.Ytnfemjnajfdepaa
theorem shareOnce_holds:Rows.ShareOnceSaid:=shareOnce.proved
end Go.Proofs.Ytnfemjnajfdepaa
