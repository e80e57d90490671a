/- Texts of the proof of ShareSteps: what each Go function answers, and what the answers mean; no condition beyond each theorem's own. -/
import Derived.Maps.OwnIn
import Derived.Maps.RangeWalk
import Derived.Maps.OwnOps
import Derived.WideKeyEntry
import Derived.DeepKeys4
import Derived.Carry
import Derived.Lib.SliceRun
import Derived.Lib.AppendZeros
import Derived.Shelf.Spec.SlicesInsert
import Derived.Lib.AppendZerosOnto
import Derived.Laws.CopyRow
import Derived.Deep.DeepAppendWide
import Derived.Test.YtnfemjnajfdepaaSt1
set_option maxHeartbeats 16000000
set_option maxRecDepth 100000
set_option linter.unusedVariables false
set_option linter.unusedSimpArgs false
namespace Go.Proofs.Ytnfemjnajfdepaa.Q
open RowKit YtnfemjnajfdepaaW.PrintWords YtnfemjnajfdepaaW.PrintLast YtnfemjnajfdepaaW.PrintMore
attribute [local go_sem] max2_int min2_int max_two min_two max_three min_three max_four min_four
open Go.Maps (Keyed IsMap has_put_same has_put_other atKey_put_same atKey_put_other isMap_empty)
abbrev Key:=Int×Int×Int
def kval(q:Key):Value:= .agg #[.int .i64 q.1,.int .i64 q.2.1,.int .u8 q.2.2,.int .i64 0]
structure OkKey (q:Key):Prop where
 a:(Lit.int .i64 q.1).wf=true
 b:(Lit.int .i64 q.2.1).wf=true
 c:(Lit.int .u8 q.2.2).wf=true
theorem tal_laid:laidOutB Try.prog=true:=by kernel_rfl
theorem tal_row:(27:TypeId)<Try.prog.types.size:=of_decide_eq_true zad
theorem tal_at:Try.prog.keyTypeAt 2 27=true:=by kernel_rfl
theorem tal_law:WideMaps.KeyLaw Try.prog 27:=deep_law_laid tal_laid (m:=2) zaa tal_row tal_at (by rw[Try.underlying27])
theorem tal_keyed:Keyed Try.prog 27:=Keyed.of_law tal_law
theorem tal_kt:Try.prog.keyType 27=true:=by kernel_rfl
theorem tal_size: ∃m,Try.prog.types.size+1=m+3:=⟨Try.prog.types.size-2,by kernel_rfl⟩
def klit(q:Key):Lit:= .string (keyBytes [.int .i64 q.1,.int .i64 q.2.1,.int .u8 q.2.2,.int .i64 0])
theorem key_lit{q:Key}(h:OkKey q):keyOf Try.prog 27 (kval q)=some (klit q):=by
 obtain⟨m,hm⟩:=tal_size;have D:Try.prog.cellsOf 27=4:=by kernel_rfl
 have c3:Try.prog.cellsOf 3=1:=by kernel_rfl
 have c5:Try.prog.cellsOf 5=1:=by kernel_rfl
 have h1:=h.a;have h2:=h.b;have h3:=h.c;have h4:(Lit.int .i64 0).wf=true:=by decide
 have hf:(kval q).formed Try.prog 27=true:=by
  simp[kval,Value.formed,Try.underlying27,D]
 have hl:Try.prog.keyLits (m+3) 27 (kval q).cells.toList=some [.int .i64 q.1,.int .i64 q.2.1,.int .u8 q.2.2,.int .i64 0]:=by
  simp[kval,Program.keyLits,Value.cells,Try.underlying27,Try.underlying3,Try.underlying5,D,c3,c5,h1,h2,h3,h4]
 unfold keyOf;rw[Try.underlying27]
 dsimp only
 rw[tal_kt,hf,hm,hl];rfl
theorem kval_inj{p q:Key}(h:kval p=kval q):p=q:=by
 obtain⟨p1,p2,p3⟩:=p;obtain⟨q1,q2,q3⟩:=q;simp only[kval,Value.agg.injEq,Array.mk.injEq,List.cons.injEq,Value.int.injEq]at h;obtain⟨⟨_,h1⟩,⟨_,h2⟩,⟨_,h3⟩,_⟩:=h;rw[h1,h2,h3]
theorem klit_inj{p q:Key}(hp:OkKey p)(hq:OkKey q)(h:klit p=klit q):p=q:=by
 refine kval_inj (tal_keyed.inj (key_lit hp) ?_);rw[h];exact key_lit hq
abbrev z0:DataW Unit:= .lit (.int .i64 0)
structure Tal (w:World) (b:Nat) (ks:List Key) (D:DataW Unit):Prop where
 ok: ∀q∈ks,OkKey q
 own:w.ownsMap Try.prog 27 (plainElem (H:=Unit) Try.prog 3) b ks.length D
 map:IsMap D
 cnt: ∀q,OkKey q->D.atKey (klit q) z0= .lit (.int .i64 (ks.count q:Int))
 has: ∀kl,Maps.has D kl=true↔ ∃q∈ks,kl=klit q
theorem Tal.made(w:World):Tal (w.alloc (.map #[] 0)) w.heap.size [] (.map []):=
 ⟨fun _ h=>by simp at h,World.ownsMap_made _ _ _ _,isMap_empty,fun q _=>rfl,fun kl=>by simp[Maps.has]⟩
theorem Tal.kept{w w':World}{b:Nat}{ks:List Key}{D:DataW Unit}(h:Tal w b ks D){row:Option Nat}(hg:w.grownBy w' row)(hne:some b≠row):Tal w' b ks D:=
 ⟨h.ok,h.own.kept hg hne,h.map,h.cnt,h.has⟩
theorem Tal.put{w:World}{b:Nat}{ks:List Key}{D:DataW Unit}(h:Tal w b ks D){q:Key}(hq:OkKey q)(hl:ks.length<1000000)(w':World)(hown:w'.ownsMap Try.prog 27 (plainElem (H:=Unit) Try.prog 3) b (ks.length+1) (D.put (klit q) (.lit (.int .i64 ((ks.count q:Int)+1))))):
 Tal w' b (ks++ [q]) (D.put (klit q) (.lit (.int .i64 ((ks.count q:Int)+1)))):=by
 have hkey:=tal_keyed.key (key_lit hq);refine⟨fun p hp=>?_,by rw[List.length_append];exact hown,h.map.put _ _,fun p hp=>?_,fun kl=>?_⟩
 ·rcases List.mem_append.1 hp with hp|hp
  ·exact h.ok p hp
  ·rw[List.mem_singleton.1 hp];exact hq
 ·by_cases e:p=q
  ·subst e;rw[atKey_put_same h.map hkey];simp[List.count_append]
  ·rw[atKey_put_other (fun e2=>e (klit_inj hp hq e2)),h.cnt p hp];rw[List.count_append,List.count_cons_of_ne (fun e2=>e e2.symm)];simp
 ·by_cases e:kl=klit q
  ·subst e;rw[has_put_same h.map hkey];exact⟨fun _=>⟨q,by simp,rfl⟩,fun _=>rfl⟩
  ·rw[has_put_other e,h.has kl];constructor
   ·rintro⟨p,hp,rfl⟩;exact⟨p,by simp[hp],rfl⟩
   ·rintro⟨p,hp,rfl⟩;rcases List.mem_append.1 hp with hp|hp
    ·exact⟨p,hp,rfl⟩
    ·rw[List.mem_singleton.1 hp]at e
     exact absurd rfl e
theorem tal_zero(u:World):(zeroValue 3).run Try.prog u= .ok (.int .i64 0) u:=by kernel_rfl
theorem Tal.entry{w:World}{b:Nat}{ks:List Key}{D:DataW Unit}(h:Tal w b ks D){q:Key}(hq:OkKey q)(hl:ks.length<1000000):
 ∃(v0:Value) (st:Nat) (w1:World),(Instr.mapEntry 78 (.map (some b)) (kval q)).run Try.prog w= .ok (.tuple #[v0,goInt st]) w1/\w.grownBy w1 (some b)/\
  (Instr.lookup 78 (.map (some b)) (kval q) false).run Try.prog w= .ok (.int .i64 (ks.count q)) w/\
  (Instr.lookup 78 (.map (some b)) (kval q) false).run Try.prog w1= .ok (.int .i64 (ks.count q)) w1/\
  ∀w2:World,w2.heap[b]? =w1.heap[b]? -> ∃w3,(Instr.entryStore 78 (.map (some b)) (goInt st) (.int .i64 ((ks.count q:Int)+1))).run Try.prog w2= .ok () w3/\w2.grownBy w3 (some b)/\
   Tal w3 b (ks++ [q]) (D.put (klit q) (.lit (.int .i64 ((ks.count q:Int)+1)))):=by
 obtain⟨es,clock,hb,F,hs,rfl⟩:=h.own;have hown:w.ownsMap Try.prog 27 (plainElem (H:=Unit) Try.prog 3) b ks.length (.map ((es.toList.map (WideElems.rg Try.prog 27 (plainElem (H:=Unit) Try.prog 3))).foldr DataW.insert [])):=⟨es,clock,hb,F,hs,rfl⟩
 obtain⟨c,hlk,hat,hwc⟩:=hown.lookup_int (t:=78) (q:= .i64) tal_keyed Try.underlying78 Try.underlying3 (tal_zero w) (key_lit hq);have hc:c=(ks.count q:Int):=by
  have h1:=h.cnt q hq;rw[hat]at h1
  simpa using h1
 subst hc;obtain⟨v0,st,X,I,hrun,_,hst⟩:=WideElems.entry_then_store (t:=78) tal_law Try.underlying78 tal_zero hb F (key_lit hq);have ag:(Lit.int .i64 0).wf=true:=by decide
 have hlt:b<w.heap.size:=hown.lt;have hback: ∀(val:Int) (w1:World),(Lit.int .i64 val).wf=true->(Instr.mapUpdate 78 (.map (some b)) (kval q) (.int .i64 val)).run Try.prog w= .ok () w1->w1.ownsMap Try.prog 27 (plainElem (H:=Unit) Try.prog 3) b (ks.length+1) ((DataW.map ((es.toList.map (WideElems.rg Try.prog 27 (plainElem (H:=Unit) Try.prog 3))).foldr DataW.insert [])).put (klit q) (.lit (.int .i64 val)))/\w.grownBy w1 (some b):=fun val w1 hv hr=>by
  obtain⟨w',hr',ho',hg'⟩:=hown.update tal_keyed (t:=78) Try.underlying78 (show ks.length<maxLen by unfold maxLen;omega) (key_lit hq) (plainElem_int Try.underlying3 hv);rw[hr]at hr'
  injection hr' with _ e;subst e;exact⟨ho',hg'⟩
 have hlook: ∀(w1:World),w1.ownsMap Try.prog 27 (plainElem (H:=Unit) Try.prog 3) b (ks.length+1) ((DataW.map ((es.toList.map (WideElems.rg Try.prog 27 (plainElem (H:=Unit) Try.prog 3))).foldr DataW.insert [])).put (klit q) (.lit (.int .i64 (ks.count q))))->(Instr.lookup 78 (.map (some b)) (kval q) false).run Try.prog w1= .ok (.int .i64 (ks.count q)) w1:=fun w1 ho=>by
  obtain⟨c',hlk',hat',_⟩:=ho.lookup_int (t:=78) (q:= .i64) tal_keyed Try.underlying78 Try.underlying3 (tal_zero w1) (key_lit hq);rw[atKey_put_same h.map (tal_keyed.key (key_lit hq))]at hat'
  have:(ks.count q:Int)=c':=by simpa using hat'
  rw[hlk',this]
 have L: ∀w2:World,w2.heap[b]? =some (.map X I)-> ∃w3,(Instr.entryStore 78 (.map (some b)) (goInt st) (.int .i64 ((ks.count q:Int)+1))).run Try.prog w2= .ok () w3/\w2.grownBy w3 (some b)/\Tal w3 b (ks++ [q]) ((DataW.map ((es.toList.map (WideElems.rg Try.prog 27 (plainElem (H:=Unit) Try.prog 3))).foldr DataW.insert [])).put (klit q) (.lit (.int .i64 ((ks.count q:Int)+1)))):=fun w2 G=>by
  obtain⟨es',clock',ac,ae⟩:=hst w2 (.int .i64 ((ks.count q:Int)+1)) G;have hcw:(Lit.int .i64 ((ks.count q:Int)+1)).wf=true:=WalkArith.wf_i64 (by have:=List.count_le_length (a:=q) (l:=ks);omega);obtain⟨ho',hg'⟩:=hback _ _ hcw ae;have ab:w2.grownBy (ChangeMaps.setBlock w2 b (.map es' clock')) (some b):=⟨rfl,rfl,rfl,by simp[ChangeMaps.setBlock],fun i _ hi=>ChangeMaps.heap_setBlock_other G _ (fun e=>hi (by rw[e]))⟩
  refine⟨_,ac,ab,h.put hq hl _ ?_⟩;obtain⟨Y,J,O,F2,af,Z⟩:=ho';refine⟨Y,J,?_,F2,af,Z⟩;rw[ChangeMaps.heap_setBlock_same G];rw[ChangeMaps.heap_setBlock_same hb]at O
  exact O
 rcases tal_law.find w (key_lit hq) es.toList F.keys with⟨h1,h2⟩|⟨j,e0,h1,h2,h3⟩
 ·have e1:(Instr.mapEntry 78 (.map (some b)) (kval q)).run Try.prog w= .ok (.tuple #[.int .i64 0,goInt clock]) (ChangeMaps.setBlock w b (.map (es.push ⟨kval q,.int .i64 0,clock⟩) (clock+1))):=by
   simp[Instr.mapEntry,run_underlying Try.underlying78,MapKept.run_getObj_map hb,tal_law.check w false (key_lit hq),h1,tal_zero,MapKept.run_setObj_map _ hb,Result.andThen,ChangeMaps.setBlock]
  have e2:(Instr.mapUpdate 78 (.map (some b)) (kval q) (.int .i64 0)).run Try.prog w= .ok () (ChangeMaps.setBlock w b (.map (es.push ⟨kval q,.int .i64 0,clock⟩) (clock+1))):=by
   simp[Instr.mapUpdate,run_underlying Try.underlying78,MapKept.run_getObj_map hb,tal_law.check w false (key_lit hq),h1,MapKept.run_setObj_map _ hb,Result.andThen,ChangeMaps.setBlock]
  have hz:ks.count q=0:=by
   have e3:(Instr.lookup 78 (.map (some b)) (kval q) false).run Try.prog w= .ok (.int .i64 0) w:=by
    simp[Instr.lookup,run_underlying Try.underlying78,MapKept.run_getObj_map hb,tal_law.check w _ (key_lit hq),h1,tal_zero,Result.andThen]
   have e6:=hlk.symm.trans e3;simp only[Result.ok.injEq,Value.int.injEq,and_true,true_and]at e6;omega
  obtain⟨ho',hg'⟩:=hback 0 _ ag e2;have U:(Instr.lookup 78 (.map (some b)) (kval q) false).run Try.prog (ChangeMaps.setBlock w b (.map (es.push ⟨kval q,.int .i64 0,clock⟩) (clock+1)))= .ok (.int .i64 (ks.count q)) (ChangeMaps.setBlock w b (.map (es.push ⟨kval q,.int .i64 0,clock⟩) (clock+1))):=hlook _ (by rw[hz];exact ho');rw[hrun]at e1
  injection e1 with e4 e5;rw[<-e5]at U hg'
  exact⟨v0,st,_,hrun,hg',hlk,U,fun w2 G=>L w2 (G.trans (ChangeMaps.heap_setBlock_same hb _))⟩
 ·have hj:es[j]? =some e0:=by simpa using h2
  have hsame:es.modify j (fun e=> { e with key:=kval q })=es:=by
   refine Array.ext zac fun i h4 h5=>?_;rw[Array.getElem_modify]
   split
   ·rename_i e
    subst e;have h6:es[j] =e0:=by
     rw[Array.getElem?_eq_getElem h5]at hj
     exact Option.some.inj hj
    rw[h6,<-h3]
   ·rfl
  have hsb:ChangeMaps.setBlock w b (.map es clock)=w:=by
   have hbs:b<w.heap.size:=hlt;have h7:w.heap[b] = .map es clock:=by
    rw[Array.getElem?_eq_getElem hbs]at hb
    exact Option.some.inj hb
   unfold ChangeMaps.setBlock;rw[show w.heap.setIfInBounds b (.map es clock)=w.heap from by
    refine Array.ext zac fun i h4 h5=>?_;rw[Array.getElem_setIfInBounds]
    split
    ·rename_i e
     subst e;exact h7.symm
    ·rfl]
  have e1:(Instr.mapEntry 78 (.map (some b)) (kval q)).run Try.prog w= .ok (.tuple #[e0.val,goInt e0.born]) (ChangeMaps.setBlock w b (.map es clock)):=by
   simp[Instr.mapEntry,run_underlying Try.underlying78,MapKept.run_getObj_map hb,tal_law.check w false (key_lit hq),h1,hj,h3,tal_law.stays w (key_lit hq),hsame,MapKept.run_setObj_map _ hb,Result.andThen,ChangeMaps.setBlock]
  rw[hsb]at e1
  have e2:=hrun.symm.trans e1;injection e2 with e4 e5;rw[e5]at hrun
  have aa:w.grownBy w (some b):=⟨rfl,rfl,rfl,Nat.le_refl _,fun _ _ _=>rfl⟩
  exact⟨v0,st,w,hrun,aa,hlk,hlk,fun w2 G=>L w2 (G.trans (by rw[<-e5];exact ChangeMaps.heap_setBlock_same hb _))⟩
theorem xor8(a b:Int):0<=Go.bits .xor .u8 a b/\Go.bits .xor .u8 a b<256:=by
 show 0<=IntKind.u8.wrap _/\IntKind.u8.wrap _<256;rw[IntKind.wrap_u8];omega
def mulB(a b:Int):Int:=(field_Mul.f 9 a b).getD 0
theorem mul_ends: ∀(k:Nat) (a b p:Int),0<=b->b<2^k->0<=p->p<256-> ∃r,field_Mul.l0 (k+1) a b p=some r/\0<=r/\r<256
 |0,a,b,p,h0,h1,p0,p1=>by
  have:b=0:=by omega
  subst this;exact⟨p,by simp[field_Mul.l0],p0,p1⟩
 |k+1,a,b,p,h0,h1,p0,p1=>by
  have h2:b / 2<2^k:=by
   rw[Int.pow_succ]at h1
   omega
  unfold field_Mul.l0;by_cases e:b=0
  ·rw[if_pos e];exact⟨p,rfl,p0,p1⟩
  ·rw[if_neg e,field_build.dbl_call,Option.bind_some,Option.bind_some]
   split
   ·exact mul_ends k _ _ _ zaa h2 p0 p1
   ·have hx:0<=Go.bits .xor .u8 p a/\Go.bits .xor .u8 p a<256:=xor8 _ _;exact mul_ends k _ _ _ zaa h2 hx.1 hx.2
theorem mulB_some{a b:Int}(h:0<=b/\b<256):field_Mul.f 9 a b=some (mulB a b)/\0<=mulB a b/\mulB a b<256:=by
 obtain⟨r,hr,h1,h2⟩:=mul_ends 8 a b 0 h.1 zaa zab zab;have e:field_Mul.f 9 a b=some r:=hr;unfold mulB;rw[e];exact⟨rfl,h1,h2⟩
def invAt(x:Int):Int:=(invTo 256).getD x.toNat 0
theorem invAt_range(x:Int):0<=invAt x/\invAt x<256:=by
 unfold invAt;by_cases h:x.toNat<256
 ·rw[List.getD_eq_getElem?_getD,List.getElem?_eq_getElem (by rw[invTo_length];exact h)];show 0<=(invTo 256)[x.toNat]'_/\(invTo 256)[x.toNat]'_<256;rw[invTo_get h]
  split
  ·rename_i h1
   exact(inv_some zaa zaa).2
  ·decide
 ·rw[List.getD_eq_getElem?_getD,List.getElem?_eq_none (by rw[invTo_length];omega)];decide
def keyQ(t s:S61):Key:=(t.f0,s.f0,mulB s.f1 (invAt t.f1))
def pairsF(t:S61)(l:List S61):List Key:=l.map (keyQ t)
def keysN:List S61->List Key
 | []=> []
 |t::r=>pairsF t r++keysN r
def keysL(L:List (List S61)):List Key:=L.flatMap keysN
def totT(L:List (List S61)):Nat->Int
 |0=>0
 |i+1=>wrap64 (totT L i+((rd_L5 L (i:Int)).length:Int))
def okT(t:S61):Bool:=(Lit.int .i64 t.f0).wf&&(Lit.int .u8 t.f1).wf
def okB(L:List (List S61)):Bool:=L.all (fun l=>l.all okT)&&decide ((keysL L).length<1000000)
def cntQ(ks:List Key)(q:Key):Int:=(ks.count q:Int)
def aheadQ(p q:Key×Int):Bool:=if p.2≠q.2 then decide (p.2>q.2)else if p.1.1≠q.1.1 then decide (p.1.1<q.1.1)else if p.1.2.1≠q.1.2.1 then decide (p.1.2.1<q.1.2.1)else decide (p.1.2.2<q.1.2.2)
def stepQ(ks:List Key)(p:Key×Int)(q:Key):Key×Int:=if cntQ ks q>1/\aheadQ (q,cntQ ks q) p=true then(q,cntQ ks q)else p
def bestQ(ks:List Key):Key×Int:=ks.foldl (stepQ ks) ((0,0,0),0)
def share_best.f(L:List (List S61)):Option (Int×Int×Int×Int×Bool):=
 if totT L L.length>512∨4096<=L.length then some (0,0,0,0,false)
 else if okB L=true then some ((bestQ (keysL L)).1.1,(bestQ (keysL L)).1.2.1,(bestQ (keysL L)).1.2.2,(bestQ (keysL L)).2,decide ((bestQ (keysL L)).2>1))else none
theorem set4{W:World}{g t:Nat}{a b c d:Value}(h:W.heap[g]? =some (.cells #[a,b,c,d] t (0,0)))(a' b' c' d':Value):((((W.setCell ⟨g,0,none⟩ a').setCell ⟨g,1,none⟩ b').setCell ⟨g,2,none⟩ c').setCell ⟨g,3,none⟩ d').heap[g]? =some (.cells #[a',b',c',d'] t (0,0)):=
 blk_put (cs:= #[a',b',c',d]) (blk_put (cs:= #[a',b',c,d]) (blk_put (cs:= #[a',b,c,d]) (blk_put (cs:= #[a,b,c,d]) h 0 _ rfl) 1 _ rfl) 2 _ rfl) 3 _ rfl
theorem below4{w0 W:World}{n g:Nat}(h:Below n w0 W)(hg:n<=g)(a' b' c' d':Value):Below n w0 ((((W.setCell ⟨g,0,none⟩ a').setCell ⟨g,1,none⟩ b').setCell ⟨g,2,none⟩ c').setCell ⟨g,3,none⟩ d'):=
 (((h.setCell (p:=⟨g,0,none⟩) hg _).setCell (p:=⟨g,1,none⟩) hg _).setCell (p:=⟨g,2,none⟩) hg _).setCell (p:=⟨g,3,none⟩) hg _
theorem keysL_step{L:List (List S61)}{i:Nat}(h:i<L.length):keysL (L.drop i)=keysN (rd_L5 L (i:Int))++keysL (L.drop (i+1)):=by
 have e:rd_L5 L (i:Int)=L[i]:=by simp[rd_L5,List.getD_eq_getElem?_getD,h]
 rw[e,List.drop_eq_getElem_cons h];rfl
theorem rd_T61_eq{l:List S61}{j:Nat}(h:j<l.length):rd_T61 l (j:Int)=l[j]:=by simp[rd_T61,List.getD_eq_getElem?_getD,h]
theorem keysN_step{l:List S61}{j:Nat}(h:j<l.length):keysN (l.drop j)=pairsF (rd_T61 l (j:Int)) (l.drop (j+1))++keysN (l.drop (j+1)):=by
 rw[rd_T61_eq h,List.drop_eq_getElem_cons h];rfl
theorem pairsF_step{t:S61}{l:List S61}{k:Nat}(h:k<l.length):pairsF t (l.drop k)=keyQ t (rd_T61 l (k:Int))::pairsF t (l.drop (k+1)):=by
 rw[rd_T61_eq h,List.drop_eq_getElem_cons h];rfl
theorem okT_wf{t:S61}(h:okT t=true):(Lit.int .i64 t.f0).wf=true/\0<=t.f1/\t.f1<256:=by
 unfold okT at h;rw[Bool.and_eq_true]at h
 refine⟨h.1,?_⟩;have h2:=h.2;have e0:IntKind.u8.min=0:=rfl;have e1:IntKind.u8.max=255:=rfl;simp only[Lit.wf,Bool.and_eq_true,decide_eq_true_eq]at h2;omega
theorem okT_at{l:List S61}(h:l.all okT=true){j:Nat}(hj:j<l.length):okT (rd_T61 l (j:Int))=true:=by
 rw[rd_T61_eq hj];exact List.all_eq_true.1 h _ (List.getElem_mem hj)
theorem okN_at{L:List (List S61)}(h:L.all (fun l=>l.all okT)=true){i:Nat}(hi:i<L.length):(rd_L5 L (i:Int)).all okT=true:=by
 have e:rd_L5 L (i:Int)=L[i]:=by simp[rd_L5,List.getD_eq_getElem?_getD,hi]
 rw[e];exact List.all_eq_true.1 h _ (List.getElem_mem hi)
theorem keyQ_ok{t s:S61}(ht:okT t=true)(hs:okT s=true):OkKey (keyQ t s):=by
 obtain⟨t1,t2,t3⟩:=okT_wf ht;obtain⟨s1,s2,s3⟩:=okT_wf hs;obtain⟨_,m1,m2⟩:=mulB_some (a:=s.f1) (invAt_range t.f1);refine⟨t1,s1,?_⟩;show(Lit.int .u8 (mulB s.f1 (invAt t.f1))).wf=true;have e0:IntKind.u8.min=0:=rfl;have e1:IntKind.u8.max=255:=rfl;simp only[Lit.wf,Bool.and_eq_true,decide_eq_true_eq];omega
theorem infoT61: ∃i,Try.prog.info? 61=some i/\i.size=2:=by
 have h:=info61
 cases e:Try.prog.info? 61 with
 |none=>rw[e]at h;cases h
 |some i=>
  rw[e]at h
  refine⟨i,rfl,?_⟩;simp only[Option.map_some,Option.some.injEq,Prod.mk.injEq]at h;exact h.2.1
theorem grow_none{u v:World}(h:Below u.heap.size u v):u.grownBy v none:=⟨h.os,h.tape,h.output,h.size,fun k hk _=>h.block k hk⟩
theorem grow_set2(W:World)(g:Nat)(a b:Value):W.grownBy ((W.setCell ⟨g,0,none⟩ a).setCell ⟨g,1,none⟩ b) (some g):=
 ⟨rfl,rfl,rfl,by simp,fun k _ hk=>(Below.heap_setCell _ _ _ k (fun e=>hk (by rw[e]))).trans (Below.heap_setCell _ _ _ k (fun e=>hk (by rw[e])))⟩
theorem set2{W:World}{g t:Nat}{a b:Value}(h:W.heap[g]? =some (.cells #[a,b] t (0,0)))(a' b':Value):((W.setCell ⟨g,0,none⟩ a').setCell ⟨g,1,none⟩ b').heap[g]? =some (.cells #[a',b'] t (0,0)):=
 blk_put (cs:= #[a',b]) (blk_put (cs:= #[a,b]) h 0 _ rfl) 1 _ rfl
theorem far2{W:World}{g h t:Nat}{cs:Array Value}(k:W.heap[h]? =some (.cells cs t (0,0)))(hne:h≠g)(a' b':Value):((W.setCell ⟨g,0,none⟩ a').setCell ⟨g,1,none⟩ b').heap[h]? =some (.cells cs t (0,0)):=
 blk_far (blk_far k hne _) hne _
theorem below2{w0 W:World}{n g:Nat}(h:Below n w0 W)(hg:n<=g)(a' b':Value):Below n w0 ((W.setCell ⟨g,0,none⟩ a').setCell ⟨g,1,none⟩ b'):=
 (h.setCell (p:=⟨g,0,none⟩) hg _).setCell (p:=⟨g,1,none⟩) hg _
theorem bcell_same{w w1:World}{p:Addr}(h:w1.heap[p.block]? =w.heap[p.block]?):w1.cell? p=w.cell? p:=by unfold World.cell?;rw[h]
theorem bwrap_small{n:Int}(h0:0<=n)(h1:n<=1000000000):wrap64 n=n:=by unfold wrap64;omega
theorem biwrap_small{n:Int}(h0:0<=n)(h1:n<=1000000000):IntKind.i64.wrap n=n:=by rw[i64_w,bwrap_small h0 h1]
theorem far4{W:World}{g h j:Nat}{v:Value}(hne:g≠h)(a b c d:Value)(k:W.cell? ⟨h,j,none⟩=some v):((((W.setCell ⟨g,0,none⟩ a).setCell ⟨g,1,none⟩ b).setCell ⟨g,2,none⟩ c).setCell ⟨g,3,none⟩ d).cell? ⟨h,j,none⟩=some v:=by
 rw[World.cell?_setCell_other _ _ _ _ zbb,World.cell?_setCell_other _ _ _ _ zbb,World.cell?_setCell_other _ _ _ _ zbb,World.cell?_setCell_other _ _ _ _ zbb];exact k
theorem grow4(W:World)(g:Nat)(a b c d:Value):W.grownBy ((((W.setCell ⟨g,0,none⟩ a).setCell ⟨g,1,none⟩ b).setCell ⟨g,2,none⟩ c).setCell ⟨g,3,none⟩ d) (some g):=
 ⟨rfl,rfl,rfl,by simp,fun k _ hk=>by
  have h:k≠g:=fun e=>hk (by rw[e]);exact(Below.heap_setCell _ _ _ k h).trans ((Below.heap_setCell _ _ _ k h).trans ((Below.heap_setCell _ _ _ k h).trans (Below.heap_setCell _ _ _ k h)))⟩
theorem bfar4{W:World}{g h t:Nat}{cs:Array Value}(k:W.heap[h]? =some (.cells cs t (0,0)))(hne:h≠g)(a b c d:Value):((((W.setCell ⟨g,0,none⟩ a).setCell ⟨g,1,none⟩ b).setCell ⟨g,2,none⟩ c).setCell ⟨g,3,none⟩ d).heap[h]? =some (.cells cs t (0,0)):=
 blk_far (blk_far (blk_far (blk_far k hne _) hne _) hne _) hne _
theorem aheadQ_iff(p q:Key×Int):aheadQ p q=true↔(p.2>q.2∨(p.2=q.2/\(p.1.1<q.1.1∨(p.1.1=q.1.1/\(p.1.2.1<q.1.2.1∨(p.1.2.1=q.1.2.1/\p.1.2.2<q.1.2.2)))))):=by
 unfold aheadQ
 split
 ·rw[decide_eq_true_eq];omega
 ·split
  ·rw[decide_eq_true_eq];omega
  ·split
   ·rw[decide_eq_true_eq];omega
   ·rw[decide_eq_true_eq];omega
theorem ahead_trans{p q r:Key×Int}(h:aheadQ p q=true)(k:aheadQ q r=true):aheadQ p r=true:=by
 rw[aheadQ_iff]at*
 omega
theorem ahead_asymm{p q:Key×Int}(h:aheadQ p q=true)(k:aheadQ q p=true):False:=by
 rw[aheadQ_iff]at*
 omega
theorem ahead_total{p q:Key×Int}(h: ¬aheadQ p q=true)(hne:p≠q):aheadQ q p=true:=by
 rw[aheadQ_iff]at*
 obtain⟨⟨a,b,c⟩,d⟩:=p;obtain⟨⟨a',b',c'⟩,d'⟩:=q
 dsimp only at*
 by_cases e:a=a'/\b=b'/\c=c'/\d=d'
 ·obtain⟨rfl,rfl,rfl,rfl⟩:=e;exact absurd rfl hne
 ·omega
def IsBest(V:Key->Prop)(ks:List Key)(P:Key×Int):Prop:=
 (P=((0,0,0),0)/\ ∀q,V q->cntQ ks q<=1)∨(V P.1/\P.2=cntQ ks P.1/\cntQ ks P.1>1/\ ∀q,V q->cntQ ks q>1->q=P.1∨aheadQ P (q,cntQ ks q)=true)
theorem IsBest.step{V V':Key->Prop}{ks:List Key}{P:Key×Int}{q0:Key}(h:IsBest V ks P)(hV: ∀q,V' q↔V q∨q=q0):IsBest V' ks (stepQ ks P q0):=by
 unfold stepQ;by_cases hc:cntQ ks q0>1/\aheadQ (q0,cntQ ks q0) P=true
 ·rw[if_pos hc];refine .inr ⟨(hV q0).2 (.inr rfl),rfl,hc.1,fun q hq h1=>?_⟩;by_cases e:q=q0
  ·exact .inl e
  ·have hv:V q:=((hV q).1 hq).resolve_right e;rcases h with⟨_,h2⟩|⟨_,h2,_,h4⟩
   ·have:=h2 q hv;omega
   ·rcases h4 q hv h1 with e2|h5
    ·subst e2;refine .inr ?_;rw[show((P.1,cntQ ks P.1):Key×Int)=P from by rw[<-h2]];exact hc.2
    ·exact .inr (ahead_trans hc.2 h5)
 ·rw[if_neg hc];rcases h with⟨rfl,h2⟩|⟨h1,h2,h3,h4⟩
  ·refine .inl ⟨rfl,fun q hq=>?_⟩;rcases(hV q).1 hq with hq|rfl
   ·exact h2 q hq
   ·rcases Int.lt_or_le 1 (cntQ ks q)with h5|h5
    ·refine absurd ⟨h5,?_⟩ hc;rw[aheadQ_iff];exact .inl (show cntQ ks q>0 by omega)
    ·exact h5
  ·refine .inr ⟨(hV _).2 (.inl h1),h2,h3,fun q hq h5=>?_⟩;rcases(hV q).1 hq with hq|rfl
   ·exact h4 q hq h5
   ·by_cases e:q=P.1
    ·exact .inl e
    ·refine .inr (ahead_total (fun h6=>hc ⟨h5,h6⟩) fun e2=>e ?_);rw[<-e2]
theorem IsBest.unique{V:Key->Prop}{ks:List Key}{P P':Key×Int}(h:IsBest V ks P)(h':IsBest V ks P'):P=P':=by
 rcases h with⟨rfl,a⟩|⟨a1,a2,a3,a4⟩
 ·rcases h' with⟨rfl,_⟩|⟨b1,b2,b3,b4⟩
  ·rfl
  ·have:=a _ b1;omega
 ·rcases h' with⟨rfl,b⟩|⟨b1,b2,b3,b4⟩
  ·have:=b _ a1;omega
  ·have e:P.1=P'.1:=by
    rcases a4 _ b1 b3 with e|h1
    ·exact e.symm
    ·rcases b4 _ a1 a3 with e|h2
     ·exact e
     ·rw[show((P'.1,cntQ ks P'.1):Key×Int)=P' from by rw[<-b2]]at h1
      rw[show((P.1,cntQ ks P.1):Key×Int)=P from by rw[<-a2]]at h2
      exact(ahead_asymm h1 h2).elim
   exact Prod.ext e (by rw[a2,b2,e])
theorem IsBest.congr{V V':Key->Prop}{ks:List Key}{P:Key×Int}(h:IsBest V ks P)(hV: ∀q,V q↔V' q):IsBest V' ks P:=by
 have e:V=V':=funext fun q=>propext (hV q)
 rwa [<-e]
theorem bestQ_fold(ks:List Key): ∀(l l':List Key) (P:Key×Int),IsBest (fun q=>q∈l') ks P->IsBest (fun q=>q∈l'++l) ks (l.foldl (stepQ ks) P)
 | [],l',P,h=>by simpa using h
 |x::l,l',P,h=>by
  have h2:=bestQ_fold ks l (l'++ [x]) (stepQ ks P x) (h.step fun q=>by simp);rw[List.append_assoc]at h2
  exact h2
theorem bestQ_is(ks:List Key):IsBest (fun q=>q∈ks) ks (bestQ ks):=
 bestQ_fold ks ks [] _ (.inl ⟨rfl,fun q hq=>absurd hq zac⟩)
theorem ahead_f(q:Key)(c:Int)(P:Key×Int):share_ahead.f q.1 q.2.1 q.2.2 c P.1.1 P.1.2.1 P.1.2.2 P.2=some (aheadQ (q,c) P):=by
 unfold share_ahead.f aheadQ;by_cases h1:c=P.2
 ·by_cases h2:q.1=P.1.1
  ·by_cases h3:q.2.1=P.1.2.1
   ·simp[h1,h2,h3]
   ·simp[h1,h2,h3]
  ·simp[h1,h2]
 ·simp[h1]
theorem rng_has{w:World}{b r n:Nat}{D:DataW Unit}{left:Lit->Bool}{cnt:Nat}{kl:Lit}(h:w.ranges Try.prog 27 (plainElem (H:=Unit) Try.prog 3) b r n D left cnt)(hl:left kl=true):Maps.has D kl=true:=by
 obtain⟨es,clock,since,seen,c0,hb,F,hs,rfl,hr,hold,hc,I,G,_⟩:=h;obtain⟨x,hx,rfl⟩:=G kl hl;obtain⟨y,hy⟩:=F.reads x hx;exact List.any_eq_true.2 ⟨WideElems.rg Try.prog 27 (plainElem (H:=Unit) Try.prog 3) x,mem_sorted.2 (List.mem_map.2 ⟨x,hx,rfl⟩),WideAt.sameKey_self (by rw[WideElems.rg_of hy];exact tal_keyed.key (WideElems.rd_key hy))⟩
theorem rng_next{w:World}{b r:Nat}{ks:List Key}{D:DataW Unit}{left:Lit->Bool}{cnt:Nat}(hT: ∃w',Tal w' b ks D)(h:w.ranges Try.prog 27 (plainElem (H:=Unit) Try.prog 3) b r ks.length D left cnt):
 ((∀kl,left kl=false)/\(Instr.next (.pointer (some ⟨r,0,none⟩)) false 0).run Try.prog w= .ok (.tuple #[.bool false]) w)∨
 ∃(q:Key) (w':World) (cnt':Nat),q∈ks/\(Instr.next (.pointer (some ⟨r,0,none⟩)) false 0).run Try.prog w= .ok (.tuple #[.bool true,kval q,.int .i64 (cntQ ks q)]) w'/\w'.ranges Try.prog 27 (plainElem (H:=Unit) Try.prog 3) b r ks.length D (fun x=>left x&& !x.sameKey (klit q)) cnt'/\cnt'<cnt/\w.grownBy w' (some r)/\w'.heap.size=w.heap.size/\
  (Instr.entry (.pointer (some ⟨r,0,none⟩))).run Try.prog w'= .ok (.tuple #[kval q,.int .i64 (cntQ ks q)]) w':=by
 obtain⟨wT,hT⟩:=hT;rcases h.next tal_keyed 0 with⟨_,hl,hrun⟩|⟨key,v,kl,y,w',cnt',hkey,hlk,hv,hat,hrun,hrg,hlt,hgr,hsz,hen⟩
 ·exact .inl ⟨hl,hrun⟩
 ·obtain⟨q,hq,rfl⟩:=(hT.has kl).1 (rng_has h hlk);obtain rfl:key=kval q:=tal_keyed.inj hkey (key_lit (hT.ok q hq));obtain⟨a,rfl,rfl,_⟩:=plainElem_int_inv Try.underlying3 hv;have e:a=cntQ ks q:=by
   have h1:=hat z0;rw[hT.cnt q (hT.ok q hq)]at h1
   have h2:(ks.count q:Int)=a:=by simpa using h1
   exact h2.symm
  subst e;exact .inr ⟨q,w',cnt',hq,hrun,hrg,hlt,hgr,hsz,hen⟩
theorem best_more{ks:List Key}{left:Lit->Bool}{P:Key×Int}{q:Key}(hok: ∀p∈ks,OkKey p)(hq:q∈ks)(h:IsBest (fun p=>p∈ks/\left (klit p)=false) ks P):
 IsBest (fun p=>p∈ks/\(left (klit p)&& !(klit p).sameKey (klit q))=false) ks (stepQ ks P q):=by
 refine h.step fun p=>?_;have hkey:=tal_keyed.key (key_lit (hok q hq));constructor
 ·rintro⟨hp,h1⟩;by_cases e:left (klit p)=true
  ·rw[e,Bool.true_and,Bool.not_eq_false']at h1
   exact .inr (klit_inj (hok p hp) (hok q hq) (WideAt.sameKey_eq h1))
  ·exact .inl ⟨hp,by simpa using e⟩
 ·rintro(⟨hp,h1⟩|rfl)
  ·exact⟨hp,by rw[h1,Bool.false_and]⟩
  ·exact⟨hq,by rw[WideAt.sameKey_self hkey];simp⟩
theorem best_start{w:World}{b:Nat}{ks:List Key}{D:DataW Unit}(hT:Tal w b ks D):IsBest (fun p=>p∈ks/\Maps.has D (klit p)=false) ks ((0,0,0),0):=by
 refine .inl ⟨rfl,fun q hq=>?_⟩;have:=(hT.has (klit q)).2 ⟨q,hq.1,rfl⟩;have h2:q∈ks/\Maps.has D (klit q)=false:=hq;rw[this]at h2
 exact absurd h2.2 zab
theorem best_end{ks:List Key}{left:Lit->Bool}{P:Key×Int}(hl: ∀kl,left kl=false)(h:IsBest (fun p=>p∈ks/\left (klit p)=false) ks P):P=bestQ ks:=
 (h.congr fun q=>⟨fun h=>h.1,fun h=>⟨h,hl _⟩⟩).unique (bestQ_is ks)
theorem share_best.calls(A0 A1 A2:Option Addr)(n0 c0 c1 n2 c2:Nat)(L:List (List S61))(g:Nat)(w:World)(ch:Kd.C (Kd.slice 61 k61) w A1 L.length L)(hg:w.heap[g]? =some (.cells (invC 256) 54 (0,0)))(hL:L.length<=140737488355328)
 (r1 r2 r3 r4:Int) (r5:Bool) (h:share_best.f L=some (r1,r2,r3,r4,r5)):
 Calls Try.prog 25 #[.agg #[.slice A0 n0 c0,.slice A1 L.length c1,.slice A2 n2 c2],.pointer (some ⟨g,0,none⟩)] w fun e w'=>e= .returned (.tuple #[.agg #[.int .i64 r1,.int .i64 r2,.int .u8 r3,.int .i64 r4],.bool r5])/\Below w.heap.size w w':=by
 have db:=Try.underlying25;have HR:=aK ch;have HG:=aK hg;have HH:=aK h;have HLL:=aK hL;clear ch hg h hL;have HB:=aK (Below.refl w.heap.size w)
 go_enter Try.func25,Try.ntmps25
 go_wp2_with (first|((with_reducible refine gD 2 rfl ?_);(try(refine gate_guard zae ?_;dsimp only));refine bE 2 #[.slice A0 n0 c0,.slice A1 L.length c1,.slice A2 n2 c2] 25 ?_;intro gf hgf w2 hbox hb;have BF:=aK (hbox);have GF:=hbS HB hgf;replace HB:=hbB HB hb;clear hb hbox hgf;obtain⟨X,Y,Z,aa,ab,ac⟩:=cell3 BF)|((with_reducible refine gD 4 rfl ?_);refine bE 4 #[.int .i64 0,.int .i64 0,.int .u8 0,.int .i64 0] 27 ?_;intro gp hgp w3 hbox hb;have BP:=aK (hbox);have GP:=hbS HB hgp;replace HB:=hbB HB hb;have NFP:=neL BF hgp;have NPF:=neG BF hgp;replace BF:=bkB BF hb;clear hb hbox hgp;obtain⟨ah,ai,aj,ak,al,am,an,ao⟩:=cell4 BP;clear X Y Z aa ab ac;obtain⟨X,Y,Z,aa,ab,ac⟩:=cell3 BF))
 go_loopw [6,22] (fun v6 c6 wr=> ∃i:Nat,i<=L.length/\v6= .int .i64 (totT L i)/\c6= .int .i64 i/\Aside0 (wr.heap[gf]? =some (.cells #[.slice A0 n0 c0,.slice A1 L.length c1,.slice A2 n2 c2] 25 (0,0)))/\Aside0 (wr.heap[gp]? =some (.cells #[.int .i64 0,.int .i64 0,.int .u8 0,.int .i64 0] 27 (0,0)))/\Aside0 (Below w.heap.size w wr)) (fun _ v _=>L.length-(intOf v).toNat)
 case atStart=>exact⟨0,by omega,rfl,rfl,BF,BP,HB⟩
 case round=>
  clear X Y Z aa ab ac ah ai aj ak al am an ao;clear BF BP HB;obtain⟨i,hi,rfl,rfl,BF,BP,HB⟩:=hrel;by_cases hlt:i<L.length
  ·obtain⟨ad,Al,cl,eA,hx,hlc,hC⟩:=at_L5 HR.out (i:Int) zaa zaa;subst eA;replace hx:=(HB.out.cell (World.block_lt_of_cell? w _ hx)).trans hx;rw[Int.toNat_natCast]at hx
   have HT:=aK (show totT L (i+1)=wrap64 (totT L i+((rd_L5 L (i:Int)).length:Int))from rfl);generalize(rd_L5 L (i:Int)).length=m at*;clear hlc hC;have hLL:=HLL.out;go_wp2
   go_roundw
   case rel=>exact⟨i+1,by omega,by rw[HT.out],by go_num,BF,BP,HB⟩
   case measure=>simp[intOf];omega
  ·obtain rfl:i=L.length:=by omega
   obtain⟨X,Y,Z,aa,ab,ac⟩:=cell3 BF;obtain⟨ah,ai,aj,ak,al,am,an,ao⟩:=cell4 BP;have H:=HH.out;unfold share_best.f at H;clear HH;by_cases a5:totT L L.length>512
   ·rw[if_pos (.inl a5)]at H
    obtain⟨rfl,rfl,rfl,rfl,rfl⟩:0=r1/\0=r2/\0=r3/\0=r4/\false=r5:=by simpa using H
    clear H;have c1b:decide (512<totT L L.length)=true:=decide_eq_true a5;generalize totT L L.length=tt at*;go_wp2;exact bodyPost_ret (results_ct rfl _ _ gp 27 #[.int .i64 0,.int .i64 0,.int .u8 0,.int .i64 0] (0,0) _ rfl (set4 BP.out _ _ _ _) Try.underlying27 rfl zad) rfl ⟨rfl,below4 HB.out GP.out _ _ _ _⟩
   ·have c1b:decide (512<totT L L.length)=false:=decide_eq_false a5;by_cases b0:4096<=L.length
    ·rw[if_pos (.inr b0)]at H
     obtain⟨rfl,rfl,rfl,rfl,rfl⟩:0=r1/\0=r2/\0=r3/\0=r4/\false=r5:=by simpa using H
     clear H;have c2b:decide (4096<=(L.length:Int))=true:=decide_eq_true zaa;generalize totT L L.length=tt at*;go_wp2;exact bodyPost_ret (results_ct rfl _ _ gp 27 #[.int .i64 0,.int .i64 0,.int .u8 0,.int .i64 0] (0,0) _ rfl (set4 BP.out _ _ _ _) Try.underlying27 rfl zad) rfl ⟨rfl,below4 HB.out GP.out _ _ _ _⟩
    ·have c2b:decide (4096<=(L.length:Int))=false:=decide_eq_false zaa;rw[if_neg (fun h=>h.elim a5 b0)]at H
     by_cases hok:okB L=true
     ·rw[if_pos hok]at H
      have HH:=aK H;clear H;generalize totT L L.length=tt at*;have hmm:=@run_makeMap Try.prog;have b6:=Tal.made wr;have hgfl:gf<wr.heap.size:=(Array.getElem?_eq_some_iff.1 BF.out).1;have hgpl:gp<wr.heap.size:=(Array.getElem?_eq_some_iff.1 BP.out).1;have hwl:w.heap.size<=wr.heap.size:=HB.out.size;have ap:Aside0 ((wr.alloc (.map #[] 0)).heap[gf]? =some (.cells #[.slice A0 n0 c0,.slice A1 L.length c1,.slice A2 n2 c2] 25 (0,0))):=⟨bkA BF.out⟩
      have J:Aside0 ((wr.alloc (.map #[] 0)).heap[gp]? =some (.cells #[.int .i64 0,.int .i64 0,.int .u8 0,.int .i64 0] 27 (0,0))):=⟨bkA BP.out⟩
      have I:Aside0 (Below w.heap.size w (wr.alloc (.map #[] 0))):=⟨hbA HB.out⟩
      have hgl:g<w.heap.size:=(Array.getElem?_eq_some_iff.1 HG.out).1;obtain⟨_,hcm_1,_,_,_,_⟩:=cell3 ap;go_wp2;clear hcm_1;generalize wr.heap.size=bm at*;clear BF BP HB X Y Z aa ab ac ah ai aj ak al am an ao c1b c2b a5 b0 hmm;have HNE:=aK (show bm≠gf/\bm≠gp/\bm≠g from⟨by omega,by omega,by omega⟩);have HWL:=aK hwl;have HGL:=aK hgl;clear hgfl hgpl hwl hgl;have b5:=aK b6;clear b6;generalize wr.alloc (.map #[] 0)=wm at*;obtain⟨hokL,hokl⟩:L.all (fun l=>l.all okT)=true/\(keysL L).length<1000000:=by
       unfold okB at hok;rw[Bool.and_eq_true]at hok
       exact⟨hok.1,of_decide_eq_true hok.2⟩
      have HOKL:=aK hokL;have HKL:=aK hokl;clear hok hokL hokl
      go_loopw [44] (fun c7 wr=> ∃(i:Nat) (ks:List Key) (D:DataW Unit),i<=L.length/\c7= .int .i64 i/\Aside0 (ks++keysL (L.drop i)=keysL L)/\Aside0 (Tal wr bm ks D)/\Aside0 (wr.heap[gf]? =some (.cells #[.slice A0 n0 c0,.slice A1 L.length c1,.slice A2 n2 c2] 25 (0,0)))/\Aside0 (wr.heap[gp]? =some (.cells #[.int .i64 0,.int .i64 0,.int .u8 0,.int .i64 0] 27 (0,0)))/\Aside0 (Below w.heap.size w wr)) (fun v _=>L.length-(intOf v).toNat)
      case atStart=>exact⟨0,[],_,by omega,rfl,⟨by simp⟩,b5,ap,J,I⟩
      case round=>
       clear b5 ap J I;obtain⟨i,ks,D,hi,rfl,HE,HTL,BF,BP,HB⟩:=hrel;by_cases hlt:i<L.length
       ·obtain⟨ad,Al,cl,eA,hx,hlc,hC⟩:=at_L5 HR.out (i:Int) zaa zaa;subst eA;replace hx:=(HB.out.cell (World.block_lt_of_cell? w _ hx)).trans hx;rw[Int.toNat_natCast]at hx
        have HON:=aK (okN_at HOKL.out hlt);have G:=aK (show ks++(keysN (rd_L5 L (i:Int))++keysL (L.drop (i+1)))=keysL L by rw[<-keysL_step hlt];exact HE.out);have HCN:=aK hC;have HLC:=aK hlc;clear HE hC hlc;obtain⟨node,hnode⟩: ∃x,x=rd_L5 L (i:Int):=⟨_,rfl⟩
        rw[<-hnode]at hx HON G HCN HLC
        obtain⟨rest,hrest⟩: ∃x,x=keysL (L.drop (i+1)):=⟨_,rfl⟩
        rw[<-hrest]at G
        have HRST:=aK hrest;clear hrest hnode;have hLL:=HLL.out;go_wp2
        go_loopw [50] (fun c8 wr=> ∃(j:Nat) (ks:List Key) (D:DataW Unit),j<=node.length/\c8= .int .i64 j/\Aside0 (ks++(keysN (node.drop j)++rest)=keysL L)/\Aside0 (Tal wr bm ks D)/\Aside0 (wr.heap[gf]? =some (.cells #[.slice A0 n0 c0,.slice (some ad) L.length c1,.slice A2 n2 c2] 25 (0,0)))/\Aside0 (wr.heap[gp]? =some (.cells #[.int .i64 0,.int .i64 0,.int .u8 0,.int .i64 0] 27 (0,0)))/\Aside0 (Below w.heap.size w wr)) (fun v _=>node.length-(intOf v).toNat)
        case atStart=>exact⟨0,ks,D,by omega,rfl,⟨by simpa using G.out⟩,HTL,BF,BP,HB⟩
        case round=>
         clear G HTL BF BP HB hx;obtain⟨j,ks,D,hj,rfl,HE,HTL,BF,BP,HB⟩:=hrel;by_cases hjl:j<node.length
         ·obtain⟨bz,cr,hx_0,hx_1⟩:=at_T61 HCN.out (j:Int) zaa zaa;subst cr;replace hx_0:=(HB.out.cell (World.block_lt_of_cell? w _ hx_0)).trans hx_0;replace hx_1:=(HB.out.cell (World.block_lt_of_cell? w _ hx_1)).trans hx_1;rw[Int.toNat_natCast]at hx_0 hx_1
          have HOT:=aK (okT_at HON.out hjl);have HONS:=aK (show(node.drop (j+1)).all okT=true from List.all_eq_true.2 fun x hx=>List.all_eq_true.1 HON.out x (List.mem_of_mem_drop hx));have G:=aK (show ks++(pairsF (rd_T61 node (j:Int)) (node.drop (j+1))++(keysN (node.drop (j+1))++rest))=keysL L by
           have:=HE.out;rw[keysN_step hjl,List.append_assoc]at this
           exact this)
          obtain⟨df,bo,bs⟩:=infoT61;have hsl:=cut_from (P:=Try.prog) 59 61 .i64 Try.underlying59 bo 2 bs (some bz) node.length cl ((j+1:Nat):Int) zaa zaa;have hcs:=Kd.C_drop (m:=j+1) HCN.out zaa HLC.out;rw[Int.toNat_natCast]at hsl
          rw[show k61.sz=2 from rfl]at hcs
          generalize(if cl=j+1 then some bz else(some bz).map (·.add ((j+1)*2)))=As at hsl hcs;clear HE bo bs;have hsn:node.length-(j+1)=(node.drop (j+1)).length:=List.length_drop.symm;rw[hsn,show((j+1:Nat):Int)=(j:Int)+1 from by omega]at hsl
          obtain⟨seg,hseg⟩: ∃x,x=node.drop (j+1):=⟨_,rfl⟩
          obtain⟨b1,htt⟩: ∃x,x=keysN (node.drop (j+1))++rest:=⟨_,rfl⟩
          rw[<-htt]at G
          rw[<-hseg]at hsl hcs G HONS
          have HSEG:=aK hseg;have HTT:=aK htt;have HCS:=aK hcs;obtain⟨tj,htj⟩: ∃x,x=rd_T61 node (j:Int):=⟨_,rfl⟩
          rw[<-htj]at hx_0 hx_1 HOT G
          clear hseg htt hcs htj hsn;have hsegl:seg.length<=node.length:=by
           have:=HSEG.out;rw[this,List.length_drop];omega
          have hnl:node.length<=9223372036854775807:=HCN.out.2.1;have hbl:=HTL.out.own.lt
          go_wp2_with (first|((with_reducible refine gD 13 rfl ?_);refine bE 13 #[.int .i64 0,.int .u8 0] 61 ?_;intro gt hgt w7 hbox hb;have BT:=aK hbox;have GT:=hbS HB hgt;have NTF:=neL BF hgt;have NTP:=neL BP hgt;have NTM:=aK (show bm≠gt by omega);replace HTL:=aK (HTL.out.kept (grow_none hb) zac);replace HB:=hbB HB hb;replace BF:=bkB BF hb;replace BP:=bkB BP hb;clear hb hbox hgt hbl;obtain⟨a9,ba,bd,be⟩:=cell2 BT))
          have a1:=aK (set2 BT.out (.int .i64 tj.f0) (.int .u8 tj.f1));have ap:=aK (far2 BF.out NTF.out (.int .i64 tj.f0) (.int .u8 tj.f1));have J:=aK (far2 BP.out NTP.out (.int .i64 tj.f0) (.int .u8 tj.f1));have av:=aK (HTL.out.kept (grow_set2 w7 gt (.int .i64 tj.f0) (.int .u8 tj.f1)) (fun e=>NTM.out (Option.some.inj e)));have I:=aK (below2 HB.out GT.out (.int .i64 tj.f0) (.int .u8 tj.f1));clear BT BF BP HTL HB a9 ba bd be hx_0 hx_1;generalize(w7.setCell ⟨gt,0,none⟩ (.int .i64 tj.f0)).setCell ⟨gt,1,none⟩ (.int .u8 tj.f1)=wk at*
          go_loopw [60] (fun c9 wr=> ∃(k:Nat) (ks:List Key) (D:DataW Unit),k<=seg.length/\c9= .int .i64 k/\Aside0 (ks++(pairsF tj (seg.drop k)++b1)=keysL L)/\Aside0 (Tal wr bm ks D)/\Aside0 (wr.heap[gf]? =some (.cells #[.slice A0 n0 c0,.slice (some ad) L.length c1,.slice A2 n2 c2] 25 (0,0)))/\Aside0 (wr.heap[gp]? =some (.cells #[.int .i64 0,.int .i64 0,.int .u8 0,.int .i64 0] 27 (0,0)))/\Aside0 (wr.heap[gt]? =some (.cells #[.int .i64 tj.f0,.int .u8 tj.f1] 61 (0,0)))/\Aside0 (Below w.heap.size w wr)) (fun v _=>seg.length-(intOf v).toNat)
          case atStart=>exact⟨0,ks,D,by omega,rfl,⟨by simpa using G.out⟩,av,ap,J,a1,I⟩
          case round=>
           clear G av ap J a1 I;obtain⟨k,ks,D,hk,rfl,HE,HTL,BF,BP,BT,HB⟩:=hrel;by_cases hkl:k<seg.length
           ·obtain⟨dc,ct,hy_0,hy_1⟩:=at_T61 HCS.out (k:Int) zaa zaa;subst ct;replace hy_0:=(HB.out.cell (World.block_lt_of_cell? w _ hy_0)).trans hy_0;replace hy_1:=(HB.out.cell (World.block_lt_of_cell? w _ hy_1)).trans hy_1;rw[Int.toNat_natCast]at hy_0 hy_1
            have G:=aK (show ks++([keyQ tj (rd_T61 seg (k:Int))]++(pairsF tj (seg.drop (k+1))++b1))=keysL L by
             have:=HE.out;rw[pairsF_step hkl]at this
             exact this)
            have HOS:=aK (okT_at HONS.out hkl);obtain⟨sj,hsj⟩: ∃x,x=rd_T61 seg (k:Int):=⟨_,rfl⟩
            rw[<-hsj]at hy_0 hy_1 G HOS
            clear hsj HE;have hkc:ks.length<1000000:=by
             have h1:=congrArg List.length G.out;have h2:=HKL.out;rw[List.length_append]at h1
             omega
            have HKC:=aK hkc;have HQ:=aK (keyQ_ok HOT.out HOS.out);obtain⟨t1,t2,t3⟩:=okT_wf HOT.out;have HMUL:=aK (mulB_some (a:=sj.f1) (invAt_range tj.f1)).1;have hgb:=(HB.out.block g HGL.out).trans HG.out;have hcg:=(blk_cell hgb tj.f1.toNat).trans (invC_at (n:=256) (i:=tj.f1.toNat) zaa);rw[show(invTo 256).getD tj.f1.toNat 0=invAt tj.f1 from rfl]at hcg
            have hgll:g<wr.heap.size:=Nat.lt_of_lt_of_le HGL.out HB.out.size;rw[show keyQ tj sj=(tj.f0,sj.f0,mulB sj.f1 (invAt tj.f1))from rfl]at HQ G
            generalize invAt tj.f1=iv at*;generalize mulB sj.f1 iv=mm at*;clear hkc hgb;have hbl:=HTL.out.own.lt
            go_wp2_with (first|((with_reducible refine gD 15 rfl ?_);refine bE 15 #[.int .i64 0,.int .u8 0] 61 ?_;intro gs hgs w8 hbox hb;have BS:=aK hbox;have GS:=hbS HB hgs;have NSF:=neL BF hgs;have NSP:=neL BP hgs;have NST:=neL BT hgs;have NSM:=aK (show bm≠gs by omega);have NSG:=aK (show g≠gs by omega);replace HTL:=aK (HTL.out.kept (grow_none hb) zac);replace HB:=hbB HB hb;replace BF:=bkB BF hb;replace BP:=bkB BP hb;replace BT:=bkB BT hb;replace hcg:=pw_cell_below hb hcg;clear hb hbox hgs hbl hgll;obtain⟨bb,bc,bf,bg⟩:=cell2 BS))
            have b3:=aK (set2 BS.out (.int .i64 sj.f0) (.int .u8 sj.f1));have ap:=aK (far2 BF.out NSF.out (.int .i64 sj.f0) (.int .u8 sj.f1));have J:=aK (far2 BP.out NSP.out (.int .i64 sj.f0) (.int .u8 sj.f1));have a1:=aK (far2 BT.out NST.out (.int .i64 sj.f0) (.int .u8 sj.f1));have av:=aK (HTL.out.kept (grow_set2 w8 gs (.int .i64 sj.f0) (.int .u8 sj.f1)) (fun e=>NSM.out (Option.some.inj e)));have I:=aK (below2 HB.out GS.out (.int .i64 sj.f0) (.int .u8 sj.f1));have b8:((w8.setCell ⟨gs,0,none⟩ (.int .i64 sj.f0)).setCell ⟨gs,1,none⟩ (.int .u8 sj.f1)).cell? ⟨g,tj.f1.toNat,none⟩=some (.int .u8 iv):=by
             rw[World.cell?_setCell_other _ _ _ _ zce,World.cell?_setCell_other _ _ _ _ zce];exact hcg
            clear BS BF BP BT HTL HB bb bc bf bg hy_0 hy_1 hcg;generalize(w8.setCell ⟨gs,0,none⟩ (.int .i64 sj.f0)).setCell ⟨gs,1,none⟩ (.int .u8 sj.f1)=wc at*;have az:wc.drew.cell? ⟨gt,0,none⟩=some (.int .i64 tj.f0):=(blk_cell a1.out 0).trans rfl;have a0:wc.drew.cell? ⟨gt,1,none⟩=some (.int .u8 tj.f1):=(blk_cell a1.out 1).trans rfl;have ax:wc.drew.cell? ⟨gs,0,none⟩=some (.int .i64 sj.f0):=(blk_cell b3.out 0).trans rfl;have ay:wc.drew.cell? ⟨gs,1,none⟩=some (.int .u8 sj.f1):=(blk_cell b3.out 1).trans rfl;have aw:wc.drew.cell? ⟨g,tj.f1.toNat,none⟩=some (.int .u8 iv):=b8;have hTD:Tal wc.drew bm ks D:=av.out.kept (grow_none (below_drew (Below.refl _ _))) zac;have bp:(Instr.lookup 78 (.map (some bm)) (.agg #[.int .i64 tj.f0,.int .i64 sj.f0,.int .u8 mm,.int .i64 0]) false).run Try.prog wc.drew= .ok (.int .i64 (ks.count (tj.f0,sj.f0,mm):Int)) wc.drew:=by
             obtain⟨_,_,_,_,_,h,_⟩:=hTD.entry HQ.out HKC.out;exact h
            obtain⟨cc,hcc⟩: ∃x:Int,x=(ks.count (tj.f0,sj.f0,mm):Int):=⟨_,rfl⟩
            have HCC:=aK hcc;have dd:0<=cc:=by omega
            have de:cc<=1000000:=by
             have:=List.count_le_length (a:=(tj.f0,sj.f0,mm)) (l:=ks);have:=HKC.out;omega
            rw[<-hcc]at bp
            clear hcc;have hwa:IntKind.i64.wrap (cc+1)=cc+1:=biwrap_small zaa zaa;have hwb:wrap64 (cc+1)=cc+1:=bwrap_small zaa zaa;have hgm:bm<wc.drew.heap.size:=hTD.own.lt;have HGM:=aK hgm;have HTD:=aK hTD;clear hTD hgm;refine start_ (n:=20) (S:=fun w'=>w'.cell? ⟨gt,0,none⟩=some (.int .i64 tj.f0)/\w'.cell? ⟨gs,0,none⟩=some (.int .i64 sj.f0)/\w'.cell? ⟨gs,1,none⟩=some (.int .u8 sj.f1)/\w'.cell? ⟨gt,1,none⟩=some (.int .u8 tj.f1)/\w'.cell? ⟨g,tj.f1.toNat,none⟩=some (.int .u8 iv)/\(Instr.lookup 78 (.map (some bm)) (.agg #[.int .i64 tj.f0,.int .i64 sj.f0,.int .u8 mm,.int .i64 0]) false).run Try.prog w'= .ok (.int .i64 cc) w') (ds:= [19]) (mB 20 0) zad rfl rfl ⟨az,ax,ay,a0,aw,bp⟩ (fun hHeld=>?_);refine zpu 0 (some 64) (mB 20 1) ?_;refine zpu 1 (some 65) (mB 20 3) ?_;refine zpu 3 (some 67) (mB 20 11) ?_;refine zpu 5 (some 69) (mB 20 43) ?_;refine zpu 7 (some 71) (mB 20 171) ?_;refine zpu 8 (some 72) (mB 20 427) ?_;refine zpu 10 (some 74) (mB 20 1451) ?_;refine ztk6 2 (some 66) (mB 20 1455) hHeld ?_;refine ztk6 4 (some 68) (mB 20 1471) hHeld ?_;refine ztk6 6 (some 70) (mB 20 1535) hHeld ?_;refine ztk6 9 (some 73) (mB 20 2047) hHeld ?_;refine zpu 11 (some 75) (mB 20 4095) ?_;refine ztk6 12 (some 76) (mB 20 8191) hHeld ?_;refine zon 13 (some 77) (mB 20 16383) fun K hK=>?_;refine goes_ Try.func39 zad rfl #[.int .u8 sj.f1,.int .u8 iv] zae rfl rfl zbc ?_;refine(field_Mul.calls 9 sj.f1 iv mm _ HMUL.out).mono ?_;rintro e w2 ⟨rfl,⟨nd,rfl⟩⟩;refine⟨_,rfl,?_⟩;have HTM:=aK (HTD.out.kept (grow_none (pw_below_drewN (Below.refl _ _) nd)) zac);obtain⟨v0,st,w1,a7,a6,hlkA,hlkB,hst⟩:=HTM.out.entry HQ.out HKC.out;have hWE:wc.drew.drewN nd=wc.drewN (1+nd):=by simp
            rw[hWE]at a7 a6 hlkA
            have hme:(Instr.mapEntry 78 (.map (some bm)) (.agg #[.int .i64 tj.f0,.int .i64 sj.f0,.int .u8 mm,.int .i64 0])).run Try.prog (wc.drewN (1+nd))= .ok (.tuple #[v0,.int .i64 (st:Int)]) w1:=a7;obtain⟨w3,bu,bn,b7⟩:=hst w1 rfl;have hse:(Instr.entryStore 78 (.map (some bm)) (.int .i64 (st:Int)) (.int .i64 (cc+1))).run Try.prog w1= .ok () w3:=by rw[HCC.out];exact bu
            have af:=aK a6;have bi:=aK bn;have cp:=aK b7;have hlkC:(Instr.lookup 78 (.map (some bm)) (.agg #[.int .i64 tj.f0,.int .i64 sj.f0,.int .u8 mm,.int .i64 0]) false).run Try.prog (wc.drewN (1+nd))= .ok (.int .i64 cc) (wc.drewN (1+nd)):=by rw[HCC.out];exact hlkA
            have hlkD:(Instr.lookup 78 (.map (some bm)) (.agg #[.int .i64 tj.f0,.int .i64 sj.f0,.int .u8 mm,.int .i64 0]) false).run Try.prog w1= .ok (.int .i64 cc) w1:=by rw[HCC.out];exact hlkB
            clear a7 hst bu a6 bn b7 hlkA hlkB;refine hK.out _ _ ⟨pw_cell_below (pw_below_drewN (Below.refl _ _) _) az,pw_cell_below (pw_below_drewN (Below.refl _ _) _) ax,pw_cell_below (pw_below_drewN (Below.refl _ _) _) ay,pw_cell_below (pw_below_drewN (Below.refl _ _) _) a0,pw_cell_below (pw_below_drewN (Below.refl _ _) _) aw,(by rw[hWE];exact hlkC)⟩ (fun hHeld=>?_);clear hK K;refine znm (some 77) ?_;refine zpu 14 (some 78) (mB 20 32767) ?_;refine ztk6 15 (some 79) (mB 20 65535) hHeld ?_;refine zpu 16 (some 80) (mB 20 131071) ?_;refine zon 17 (some 81) (mB 20 262143) fun K hK=>?_;refine value_ (w1:=?_) (v:=?_) zae rfl ?_ ?_;rotate_left 2
            ·go_simp;constructor
             ·rfl
             ·rfl
            refine hK.out _ _ ⟨(bcell_same (af.out.block _ (World.block_lt_of_cell? _ _ az) (fun e=>NTM.out (Option.some.inj e).symm))).trans az,(bcell_same (af.out.block _ (World.block_lt_of_cell? _ _ ax) (fun e=>NSM.out (Option.some.inj e).symm))).trans ax,(bcell_same (af.out.block _ (World.block_lt_of_cell? _ _ ay) (fun e=>NSM.out (Option.some.inj e).symm))).trans ay,(bcell_same (af.out.block _ (World.block_lt_of_cell? _ _ a0) (fun e=>NTM.out (Option.some.inj e).symm))).trans a0,(bcell_same (af.out.block _ (World.block_lt_of_cell? _ _ aw) (fun e=>HNE.out.2.2 (Option.some.inj e).symm))).trans aw,hlkD⟩ (fun hHeld=>?_);clear hK K;refine znm (some 81) ?_;refine zpu 18 (some 82) (mB 20 524287) ?_;refine zln 19 (none) (mB 20 1048575) fun K hK=>?_;refine zsk ?_;refine hK.out _ _ ?_;clear hK K;refine done_ zad ?_;have hbmw:=HWL.out;have a8:=I.out.size;have ci:=af.out.size;rw[show(wc.drewN (1+nd)).heap.size=wc.heap.size from by simp]at ci
            have bw:=aK ((((I.out.trans ((below_drew (Below.refl wc.heap.size wc)).mono a8)).trans ((pw_below_drewN (Below.refl wc.drew.heap.size wc.drew) nd).mono a8)).grown (w':=w1) (row:=some bm) (by rw[hWE];exact af.out) (by simpa using a8) (fun e he=>by cases he;exact hbmw)).grown bi.out zaa (fun e he=>by cases he;exact hbmw));have keepW: ∀(h:Nat) (o:Obj),wc.heap[h]? =some o->bm≠h->w3.heap[h]? =some o:=fun h o ho hne=>by
             have hl:h<wc.heap.size:=(Array.getElem?_eq_some_iff.1 ho).1;rw[bi.out.block h zaa (fun e=>hne (Option.some.inj e).symm),af.out.block h zay (fun e=>hne (Option.some.inj e).symm)];simpa using ho
            have ck:=aK (keepW _ _ ap.out HNE.out.1);have bv:=aK (keepW _ _ J.out HNE.out.2.1);have cn:=aK (keepW _ _ a1.out NTM.out);have co:=aK (show(ks++ [(tj.f0,sj.f0,mm)])++(pairsF tj (seg.drop (k+1))++b1)=keysL L by rw[List.append_assoc];exact G.out);clear keepW
            go_wp2_with fail
            go_roundw
            case rel=>exact⟨k+1,ks++ [(tj.f0,sj.f0,mm)],_,by omega,by go_num,co,cp,ck,bv,cn,bw⟩
            case measure=>simp[intOf];omega
           ·obtain rfl:k=seg.length:=by omega
            have G:=aK (show ks++(keysN (node.drop (j+1))++rest)=keysL L by
             have:=HE.out;rw[List.drop_length]at this
             rw[<-HTT.out];exact this)
            go_wp2
            go_roundw
            case rel=>exact⟨j+1,ks,D,by omega,by go_num,G,HTL,BF,BP,HB⟩
            case measure=>simp[intOf];omega
         ·obtain rfl:j=node.length:=by omega
          have G:=aK (show ks++keysL (L.drop (i+1))=keysL L by
           have:=HE.out;rw[List.drop_length]at this
           rw[<-HRST.out];exact this)
          go_wp2
          go_roundw
          case rel=>exact⟨i+1,ks,D,by omega,by go_num,G,HTL,BF,BP,HB⟩
          case measure=>simp[intOf];omega
       ·obtain rfl:i=L.length:=by omega
        have G:=aK (show ks=keysL L by
         have:=HE.out;rw[List.drop_length]at this
         rw[<-this];simp[keysL])
        clear HE;have hbl:=HTL.out.own.lt
        go_wp2_with (first|((with_reducible refine gD 16 rfl ?_);refine bE 16 #[.int .i64 0,.int .i64 0,.int .u8 0,.int .i64 0] 27 ?_;intro gq hgq w7 hbox hb;have BQ:=aK hbox;have GQ:=hbS HB hgq;have NQF:=neL BF hgq;have NQP:=neL BP hgq;have NQM:=aK (show bm≠gq by omega);replace HTL:=aK (HTL.out.kept (grow_none hb) zac);replace HB:=hbB HB hb;replace BF:=bkB BF hb;replace BP:=bkB BP hb;clear hb hbox hgq hbl)|(at_range;refine wpList_range_own _ rfl _ 78 rfl 27 3 tal_keyed Try.underlying78 _ bm ks.length D rfl HTL.out.own ?_;intro w0 br bh c5))
        have hgql:gq<w7.heap.size:=(Array.getElem?_eq_some_iff.1 BQ.out).1;have hgpl:gp<w7.heap.size:=(Array.getElem?_eq_some_iff.1 BP.out).1;have hwl:w.heap.size<=w7.heap.size:=HB.out.size;have hbl:=HTL.out.own.lt;have ae:=aK ((bh.block gq hgql zac).trans BQ.out);have J:=aK ((bh.block gp hgpl zac).trans BP.out);have I:=aK (HB.out.grown bh hwl (fun k hk=>by cases hk));have bk:=aK br;have HTT:=aK (show∃w',Tal w' bm ks D from⟨w7,HTL.out⟩);have bj:=aK (best_start HTL.out);have HOKK:=aK HTL.out.ok;generalize w7.heap.size=rm at*;have HNR:=aK (show gq≠rm/\gp≠rm/\bm≠rm/\w.heap.size<=rm from⟨by omega,by omega,by omega,hwl⟩);clear BQ BP HB HTL BF br bh c5 hgql hgpl hwl hbl
        go_frame
        go_loopw [18] (fun _ wr=> ∃(left:Lit->Bool) (cnt:Nat) (P:Key×Int),Aside0 (wr.ranges Try.prog 27 (plainElem (H:=Unit) Try.prog 3) bm rm ks.length D left cnt)/\Aside0 (wr.heap[gq]? =some (.cells #[.int .i64 P.1.1,.int .i64 P.1.2.1,.int .u8 P.1.2.2,.int .i64 P.2] 27 (0,0)))/\Aside0 (IsBest (fun p=>p∈ks/\left (klit p)=false) ks P)/\Aside0 (wr.heap[gp]? =some (.cells #[.int .i64 0,.int .i64 0,.int .u8 0,.int .i64 0] 27 (0,0)))/\Aside0 (Below w.heap.size w wr)) (fun _ wr=>wr.rangeLeft bm rm)
        case atStart=>exact⟨_,_,((0,0,0),0),bk,ae,bj,J,I⟩
        case round=>
         clear bk ae bj J I;obtain⟨left,cnt,P,HRG,BQ,HIS,BP,HB⟩:=hrel;rcases rng_next HTT.out HRG.out with⟨hl,hnx⟩|⟨q,w9,cnt',hq,hnx,hrg,bq,hgr,hsz,hen⟩
         ·have HPE:=aK (best_end hl HIS.out);clear hl
          go_wp2_with fail
          obtain⟨pq,hpq⟩: ∃x,x=bestQ ks:=⟨_,rfl⟩
          have b4:Aside0 (P=pq):=⟨by rw[HPE.out,hpq]⟩
          have HPQ:=aK hpq;clear HPE hpq;obtain⟨⟨pa,pb,pc⟩,pd⟩:=P;have BQ:Aside0 (wr.heap[gq]? =some (.cells #[.int .i64 pa,.int .i64 pb,.int .u8 pc,.int .i64 pd] 27 (0,0))):=BQ;have cd:wr.drew.cell? ⟨gq,0,none⟩=some (.int .i64 pa):=(blk_cell BQ.out 0).trans rfl;have ce:wr.drew.cell? ⟨gq,1,none⟩=some (.int .i64 pb):=(blk_cell BQ.out 1).trans rfl;have cf:wr.drew.cell? ⟨gq,2,none⟩=some (.int .u8 pc):=(blk_cell BQ.out 2).trans rfl;have cg:wr.drew.cell? ⟨gq,3,none⟩=some (.int .i64 pd):=(blk_cell BQ.out 3).trans rfl;have J:Aside0 (wr.drew.heap[gp]? =some (.cells #[.int .i64 0,.int .i64 0,.int .u8 0,.int .i64 0] 27 (0,0))):=⟨BP.out⟩
          have I:Aside0 (Below w.heap.size w wr.drew):=⟨below_drew HB.out⟩
          obtain⟨cy,cz,c3,c4,cu,cv,cw,cx⟩:=cell4 BP;clear BQ HIS HRG hnx;refine start_ (n:=6) (S:=fun w'=>w'.cell? ⟨gq,0,none⟩=some (.int .i64 pa)/\w'.cell? ⟨gq,1,none⟩=some (.int .i64 pb)/\w'.cell? ⟨gq,2,none⟩=some (.int .u8 pc)/\w'.cell? ⟨gq,3,none⟩=some (.int .i64 pd)) (ds:= []) (mB 6 0) zad rfl rfl ⟨cd,ce,cf,cg⟩ (fun hHeld=>?_);refine zpu 1 (some 104) (mB 6 2) ?_;refine ztk4 0 (some 103) (mB 6 3) hHeld ?_;refine ztk4 2 (some 105) (mB 6 7) hHeld ?_;refine zpu 3 (some 106) (mB 6 15) ?_;refine zon 4 (none) (mB 6 31) fun K hK=>?_;refine zsk ?_;refine hK.out _ _ ⟨far4 zbe _ _ _ _ cd,far4 zbe _ _ _ _ ce,far4 zbe _ _ _ _ cf,far4 zbe _ _ _ _ cg⟩ (fun hHeld=>?_);clear hK K;refine zpu 5 (some 5) (mB 6 63) ?_;refine done_ zad ?_;have H5:=HH.out;rw[<-G.out,<-HPQ.out,<-b4.out]at H5
          obtain⟨rfl,rfl,rfl,rfl,rfl⟩:pa=r1/\pb=r2/\pc=r3/\pd=r4/\decide (pd>1)=r5:=by simpa using H5
          clear cy cz c3 c4 cu cv cw cx
          go_wp2_with fail
          exact bodyPost_ret (results_ct rfl _ _ gp 27 #[.int .i64 pa,.int .i64 pb,.int .u8 pc,.int .i64 pd] (0,0) _ rfl (set4 BP.out _ _ _ _) Try.underlying27 rfl zad) rfl ⟨rfl,below_drew (below4 HB.out GP.out _ _ _ _)⟩
         ·have hgql:gq<wr.heap.size:=(Array.getElem?_eq_some_iff.1 BQ.out).1;have hgpl:gp<wr.heap.size:=(Array.getElem?_eq_some_iff.1 BP.out).1;have ag:=aK (best_more HOKK.out hq HIS.out);have a3:=aK ((hgr.block gq hgql (fun e=>HNR.out.1 (Option.some.inj e))).trans BQ.out);have a2:=aK ((hgr.block gp hgpl (fun e=>HNR.out.2.1 (Option.some.inj e))).trans BP.out);have a4:=aK (HB.out.grown hgr HB.out.size (fun k hk=>by cases hk;exact HNR.out.2.2.2));have bx:=aK HRG.out.left_eq;have HLT:=aK bq;have au:=aK hrg;have hrml:=hrg.lt;have hbml:=hrg.owns.lt;clear BQ BP HB HIS HRG hrg hgr hsz hgql hgpl bq;obtain⟨qa,qb,qc⟩:=q;obtain⟨⟨pa,pb,pc⟩,pd⟩:=P;obtain⟨cq,hcq⟩: ∃x,x=cntQ ks (qa,qb,qc):=⟨_,rfl⟩
          rw[<-hcq]at hnx hen
          have cb:(Instr.next (.pointer (some ⟨rm,0,none⟩)) false 0).run Try.prog wr= .ok (.tuple #[.bool true,.agg #[.int .i64 qa,.int .i64 qb,.int .u8 qc,.int .i64 0],.int .i64 cq]) w9:=hnx;have b9:(Instr.entry (.pointer (some ⟨rm,0,none⟩))).run Try.prog w9= .ok (.tuple #[.agg #[.int .i64 qa,.int .i64 qb,.int .u8 qc,.int .i64 0],.int .i64 cq]) w9:=hen;have HSTEP:=aK (show stepQ ks ((pa,pb,pc),pd) (qa,qb,qc)=if cq>1/\aheadQ ((qa,qb,qc),cq) ((pa,pb,pc),pd)=true then((qa,qb,qc),cq)else((pa,pb,pc),pd)by unfold stepQ;rw[<-hcq]);clear hnx hen hcq hq
          go_upto_region 28 with(first|((with_reducible refine gD 17 rfl ?_);refine bE 17 #[.int .i64 0,.int .i64 0,.int .u8 0,.int .i64 0] 27 ?_;intro gx hgx b2 hbox hb;have BX:=aK hbox;have GX:=hbS a4 hgx;have NXQ:=neL a3 hgx;have NXP:=neL a2 hgx;have NXM:=aK (show bm≠gx by omega);have NXR:=aK (show rm≠gx by omega);replace au:=aK (au.out.kept (grow_none hb) zac zac);replace a4:=hbB a4 hb;replace a3:=bkB a3 hb;replace a2:=bkB a2 hb;clear hb hbox hgx hrml hbml;obtain⟨hcx_0,hcx_1,hcx_2,hcx_3,hfx_0,hfx_1,hfx_2,hfx_3⟩:=cell4 BX))
          have ar:=aK (blk_put (cs:= #[.int .i64 qa,.int .i64 qb,.int .u8 qc,.int .i64 0]) (set4 BX.out (.int .i64 qa) (.int .i64 qb) (.int .u8 qc) (.int .i64 0)) 3 (.int .i64 cq) rfl);have ae:=aK (blk_far (bfar4 a3.out NXQ.out (.int .i64 qa) (.int .i64 qb) (.int .u8 qc) (.int .i64 0)) (p:=⟨gx,3,none⟩) NXQ.out (.int .i64 cq));have J:=aK (blk_far (bfar4 a2.out NXP.out (.int .i64 qa) (.int .i64 qb) (.int .u8 qc) (.int .i64 0)) (p:=⟨gx,3,none⟩) NXP.out (.int .i64 cq));have U:=aK ((au.out.kept (grow4 b2 gx (.int .i64 qa) (.int .i64 qb) (.int .u8 qc) (.int .i64 0)) (fun e=>NXM.out (Option.some.inj e)) (fun e=>NXR.out (Option.some.inj e))).kept (w':=((((b2.setCell ⟨gx,0,none⟩ (.int .i64 qa)).setCell ⟨gx,1,none⟩ (.int .i64 qb)).setCell ⟨gx,2,none⟩ (.int .u8 qc)).setCell ⟨gx,3,none⟩ (.int .i64 0)).setCell ⟨gx,3,none⟩ (.int .i64 cq)) (row:=some gx) ⟨rfl,rfl,rfl,by simp,fun k _ hk=>Below.heap_setCell _ _ _ k (fun e=>hk (by rw[e]))⟩ (fun e=>NXM.out (Option.some.inj e)) (fun e=>NXR.out (Option.some.inj e)));have I:=aK ((below4 a4.out GX.out (.int .i64 qa) (.int .i64 qb) (.int .u8 qc) (.int .i64 0)).setCell (p:=⟨gx,3,none⟩) GX.out (.int .i64 cq));have ca:=NXQ.out;have da:gx≠gq:=fun e=>ca e.symm;clear BX a3 a2 au a4 hcx_0 hcx_1 hcx_2 hcx_3 hfx_0 hfx_1 hfx_2 hfx_3 cb b9;generalize((((b2.setCell ⟨gx,0,none⟩ (.int .i64 qa)).setCell ⟨gx,1,none⟩ (.int .i64 qb)).setCell ⟨gx,2,none⟩ (.int .u8 qc)).setCell ⟨gx,3,none⟩ (.int .i64 0)).setCell ⟨gx,3,none⟩ (.int .i64 cq)=wq at*;obtain⟨hcx_0,hcx_1,hcx_2,hcx_3,hfx_0,hfx_1,hfx_2,hfx_3⟩:=cell4 ar;obtain⟨hcq_0,hcq_1,hcq_2,hcq_3,hfq_0,hfq_1,hfq_2,hfq_3⟩:=cell4 ae;by_cases h1:1<cq
          ·have d1:decide (1<cq)=true:=decide_eq_true h1;have HAH:=aK (show share_ahead.f qa qb qc cq pa pb pc pd=some (aheadQ ((qa,qb,qc),cq) ((pa,pb,pc),pd))from ahead_f (qa,qb,qc) cq ((pa,pb,pc),pd))
           cases hah:aheadQ ((qa,qb,qc),cq) ((pa,pb,pc),pd)
           ·rw[hah]at HAH
            have O:=ag.out;rw[HSTEP.out,if_neg (fun h=>by rw[hah]at h;exact absurd h.2 zab)]at O
            have aq:=aK O;clear O ag h1
            go_wp2_with (go_at_call 40;refine(share_ahead.calls qa qb qc cq pa pb pc pd false _ HAH.out).mono ?_;rintro e cj ⟨rfl,hb⟩;replace U:=aK (U.out.kept (grow_none hb) zac zac);replace I:=hbB I hb;replace ae:=bkB ae hb;replace J:=bkB J hb;replace ar:=bkB ar hb;clear hb hcx_0 hcx_1 hcx_2 hcx_3 hfx_0 hfx_1 hfx_2 hfx_3 hcq_0 hcq_1 hcq_2 hcq_3 hfq_0 hfq_1 hfq_2 hfq_3;obtain⟨hcx_0,hcx_1,hcx_2,hcx_3,hfx_0,hfx_1,hfx_2,hfx_3⟩:=cell4 ar;obtain⟨hcq_0,hcq_1,hcq_2,hcq_3,hfq_0,hfq_1,hfq_2,hfq_3⟩:=cell4 ae)
            go_roundw
            case rel=>exact⟨_,cnt',((pa,pb,pc),pd),U,ae,aq,J,I⟩
            case measure=>
             rw[U.out.left_eq,bx.out];exact HLT.out
           ·rw[hah]at HAH
            have O:=ag.out;rw[HSTEP.out,if_pos ⟨h1,hah⟩]at O
            have aq:=aK O;clear O ag h1
            go_wp2_with (go_at_call 40;refine(share_ahead.calls qa qb qc cq pa pb pc pd true _ HAH.out).mono ?_;rintro e cj ⟨rfl,hb⟩;replace U:=aK (U.out.kept (grow_none hb) zac zac);replace I:=hbB I hb;replace ae:=bkB ae hb;replace J:=bkB J hb;replace ar:=bkB ar hb;clear hb hcx_0 hcx_1 hcx_2 hcx_3 hfx_0 hfx_1 hfx_2 hfx_3 hcq_0 hcq_1 hcq_2 hcq_3 hfq_0 hfq_1 hfq_2 hfq_3;obtain⟨hcx_0,hcx_1,hcx_2,hcx_3,hfx_0,hfx_1,hfx_2,hfx_3⟩:=cell4 ar;obtain⟨hcq_0,hcq_1,hcq_2,hcq_3,hfq_0,hfq_1,hfq_2,hfq_3⟩:=cell4 ae)
            have cm:=aK (set4 ae.out (.int .i64 qa) (.int .i64 qb) (.int .u8 qc) (.int .i64 cq));have bv:=aK (bfar4 J.out NQP.out (.int .i64 qa) (.int .i64 qb) (.int .u8 qc) (.int .i64 cq));have bl:=aK (U.out.kept (grow4 cj gq (.int .i64 qa) (.int .i64 qb) (.int .u8 qc) (.int .i64 cq)) (fun e=>NQM.out (Option.some.inj e)) (fun e=>HNR.out.1 (Option.some.inj e).symm));have bw:=aK (below4 I.out GQ.out (.int .i64 qa) (.int .i64 qb) (.int .u8 qc) (.int .i64 cq))
            go_roundw
            case rel=>exact⟨_,cnt',((qa,qb,qc),cq),bl,cm,aq,bv,bw⟩
            case measure=>
             rw[bl.out.left_eq,bx.out];exact HLT.out
          ·have d1:decide (1<cq)=false:=decide_eq_false h1;have O:=ag.out;rw[HSTEP.out,if_neg (fun h=>h1 h.1)]at O
           have aq:=aK O;clear O ag h1;go_wp2
           go_roundw
           case rel=>exact⟨_,cnt',((pa,pb,pc),pd),U,ae,aq,J,I⟩
           case measure=>
            rw[U.out.left_eq,bx.out];exact HLT.out
     ·rw[if_neg hok]at H
      cases H
end Go.Proofs.Ytnfemjnajfdepaa.Q
namespace Go.Proofs.Ytnfemjnajfdepaa.Q
open RowKit YtnfemjnajfdepaaW.PrintWords YtnfemjnajfdepaaW.PrintLast YtnfemjnajfdepaaW.PrintMore
attribute [local go_sem] max2_int min2_int max_two min_two max_three min_three max_four min_four
def share_Best.f(k:Nat)(l0:List Int)(L:List (List S61))(l2:List Int):Option (Int×Int×Int×Int×Bool×Int):=
 (flow_May.f k l0 L l2).bind fun t=>if t=true then(if L.length<=140737488355328 then(share_best.f L).bind fun p=>some (p.1,p.2.1,p.2.2.1,p.2.2.2.1,p.2.2.2.2,0)else none)else some (0,0,0,0,false,2)
theorem share_Best.mono: ∀a0 a1 a2 k,LeO (share_Best.f k a0 a1 a2) (share_Best.f (k+1) a0 a1 a2):=fun a0 a1 a2 k=>LeO.bind (flow_May.mono a0 a1 a2 k) fun _=>LeO.refl _
theorem invC_sizes:(invC 1).size=(invC 256).size:=(invC_size 1).trans (invC_size 256).symm
theorem share_Best.calls(k:Nat)(ai:Option Addr)(al:Nat)(X:List Int)(aj:Option Addr)(am:Nat)(U:List (List S61))(ak:Option Addr)(an:Nat)(Y:List Int)(r1 r2 r3 r4:Int)(r5:Bool)(r6:Int)(w:World)(ar:Kd.C (Kd.int .i64) w ai X.length X)(ao:X.length<=al)(au:Kd.C (Kd.slice 61 k61) w aj U.length U)(ap:U.length<=am)(av:Kd.C (Kd.int .i64) w ak Y.length Y)(aq:Y.length<=an)(h:share_Best.f k X U Y=some (r1,r2,r3,r4,r5,r6)):
 Calls Try.prog 10 #[.agg #[.slice ai X.length al,.slice aj U.length am,.slice ak Y.length an]] w fun e w'=>e= .returned (.tuple #[.agg #[.int .i64 r1,.int .i64 r2,.int .u8 r3,.int .i64 r4],.bool r5,.int .i64 r6])/\Below w.heap.size w w':=by
 have a5:=Try.underlying25;have a2:=aK ar;have az:=aK ao;have ay:=aK au;have a0:=aK ap;have a3:=aK av;have a1:=aK aq;clear ar ao au ap av aq;have HB:=aK (Below.refl w.heap.size w);unfold share_Best.f at h;obtain⟨t,ht,h⟩:=Option.bind_eq_some_iff.1 h;have HMAY:=aK ht;clear ht
 cases t
 ·rw[if_neg zab]at h
  obtain⟨rfl,rfl,rfl,rfl,rfl,rfl⟩:0=r1/\0=r2/\0=r3/\0=r4/\false=r5/\2=r6:=by simpa using h
  clear h
  go_enter Try.func10,Try.ntmps10
  go_wp2_with (first|((with_reducible refine gD 1 rfl ?_);(try(refine gate_guard zae ?_;dsimp only));refine bE 1 #[.slice ai X.length al,.slice aj U.length am,.slice ak Y.length an] 25 ?_;intro gf hgf w2 hbox hb;have BF:=aK (hbox);have GF:=hbS HB hgf;replace HB:=hbB HB hb;clear hb hbox hgf;obtain⟨D,G,I,J,L,O⟩:=cell3 BF)|((with_reducible refine gD 2 rfl ?_);refine bE 2 #[.int .i64 0,.int .i64 0,.int .u8 0,.int .i64 0] 27 ?_;intro gp hgp w3 hbox hb;have BP:=aK (hbox);have GP:=hbS HB hgp;replace HB:=hbB HB hb;have NFP:=neL BF hgp;replace BF:=bkB BF hb;clear hb hbox hgp;obtain⟨Z,aa,ab,ac,ae,af,ag,ah⟩:=cell4 BP;clear D G I J L O;obtain⟨D,G,I,J,L,O⟩:=cell3 BF)|(go_at_call 23;refine(flow_May.calls k _ _ X _ _ U _ _ Y false _ (kcB a2 HB) az.out (kcB ay HB) a0.out (kcB a3 HB) a1.out HMAY.out).mono ?_;rintro e w4 ⟨rfl,hb⟩;replace HB:=hbB HB hb;replace BP:=bkB BP hb;clear Z aa ab ac ae af ag ah;obtain⟨Z,aa,ab,ac,ae,af,ag,ah⟩:=cell4 BP))
  exact bodyPost_ret (results_ctt rfl _ _ gp 27 #[.int .i64 0,.int .i64 0,.int .u8 0,.int .i64 0] (0,0) _ rfl (set4 BP.out _ _ _ _) Try.underlying27 rfl zad) rfl ⟨rfl,below4 HB.out GP.out _ _ _ _⟩
 ·rw[if_pos rfl]at h
  by_cases hL:U.length<=140737488355328
  ·rw[if_pos hL]at h
   obtain⟨⟨p1,p2,p3,p4,p5⟩,hb,h⟩:=Option.bind_eq_some_iff.1 h;obtain⟨rfl,rfl,rfl,rfl,rfl,rfl⟩:p1=r1/\p2=r2/\p3=r3/\p4=r4/\p5=r5/\0=r6:=by simpa using h
   have HBEST:=aK hb;have HLL:=aK hL;clear h hb hL;have hz:=inv_zero
   go_enter Try.func10,Try.ntmps10
   go_upto_region 3 with(first|((with_reducible refine gD 1 rfl ?_);(try(refine gate_guard zae ?_;dsimp only));refine bE 1 #[.slice ai X.length al,.slice aj U.length am,.slice ak Y.length an] 25 ?_;intro gf hgf w2 hbox hb;have BF:=aK (hbox);have GF:=hbS HB hgf;replace HB:=hbB HB hb;clear hb hbox hgf;obtain⟨D,G,I,J,L,O⟩:=cell3 BF)|((with_reducible refine gD 2 rfl ?_);refine bE 2 #[.int .i64 0,.int .i64 0,.int .u8 0,.int .i64 0] 27 ?_;intro gp hgp w3 hbox hb;have BP:=aK (hbox);have GP:=hbS HB hgp;replace HB:=hbB HB hb;have NFP:=neL BF hgp;replace BF:=bkB BF hb;clear hb hbox hgp;obtain⟨Z,aa,ab,ac,ae,af,ag,ah⟩:=cell4 BP;clear D G I J L O;obtain⟨D,G,I,J,L,O⟩:=cell3 BF)|(go_at_call 23;refine(flow_May.calls k _ _ X _ _ U _ _ Y true _ (kcB a2 HB) az.out (kcB ay HB) a0.out (kcB a3 HB) a1.out HMAY.out).mono ?_;rintro e w4 ⟨rfl,hb⟩;replace HB:=hbB HB hb;replace BP:=bkB BP hb;replace BF:=bkB BF hb))
   clear Z aa ab ac ae af ag ah D G I J L O
   go_upto_region 4 with(first|(go_at_call 24;refine(share_inverses.calls _).mono ?_;rintro e w5 ⟨rfl,hb⟩;replace HB:=hbB HB hb;replace BP:=bkB BP hb;replace BF:=bkB BF hb)|(with_reducible refine wpList_store_row rfl 54 (.tmp 5) (.tmp 10) rfl w5.heap.size (invC 256) rfl rfl 54 _ (blk_new _ _) inv_info invC_sizes (invC_one 256) ?_;rw[World.setRow_alloc_new];simp only[Act.put,List.setIfInBounds_toArray,List.set_cons_succ,List.set_cons_zero]))
   have a4:Aside0 ((w5.alloc (.cells (invC 256) 54)).heap[gf]? =some (.cells #[.slice ai X.length al,.slice aj U.length am,.slice ak Y.length an] 25 (0,0))):=⟨bkA BF.out⟩
   have aw:Aside0 ((w5.alloc (.cells (invC 256) 54)).heap[gp]? =some (.cells #[.int .i64 0,.int .i64 0,.int .u8 0,.int .i64 0] 27 (0,0))):=⟨bkA BP.out⟩
   have ax:Aside0 (Below w.heap.size w (w5.alloc (.cells (invC 256) 54))):=⟨hbA HB.out⟩
   have HTAB:=aK (blk_new w5 (.cells (invC 256) 54));clear BF BP HB;generalize w5.heap.size=gt at*;generalize w5.alloc (.cells (invC 256) 54)=w6 at*;obtain⟨D,G,I,J,L,O⟩:=cell3 a4
   go_wp2_with (go_at_call 25;refine(share_best.calls ai aj ak X.length al am Y.length an U gt _ (kcB ay ax) HTAB.out HLL.out p1 p2 p3 p4 p5 HBEST.out).mono ?_;rintro e w7 ⟨rfl,hb⟩;replace ax:=hbB ax hb;replace aw:=bkB aw hb;obtain⟨Z,aa,ab,ac,ae,af,ag,ah⟩:=cell4 aw)
   exact bodyPost_ret (results_ctt rfl _ _ gp 27 #[.int .i64 p1,.int .i64 p2,.int .u8 p3,.int .i64 p4] (0,0) _ rfl (set4 (set4 aw.out _ _ _ _) _ _ _ _) Try.underlying27 rfl zad) rfl ⟨rfl,below4 (below4 ax.out GP.out _ _ _ _) GP.out _ _ _ _⟩
  ·rw[if_neg hL]at h
   cases h
theorem eqA27(d:Nat)(w:World)(x0 y0:Int)(x1 y1:Int)(x2 y2:Int)(x3 y3:Int):
 (Op.equalIn (d+2) 27 (.agg #[.int .i64 x0,.int .i64 x1,.int .u8 x2,.int .i64 x3]) (.agg #[.int .i64 y0,.int .i64 y1,.int .u8 y2,.int .i64 y3])).run Try.prog w= .ok (x0==y0&&(x1==y1&&(x2==y2&&(x3==y3)))) w:=by
 refine eqA_of Try.underlying27 zad ?_;refine eqf_cons zae zaq zaq zax ?_;refine eqf_cons zae zaq zaq zax ?_;refine eqf_cons zae zaq zaq zax ?_;exact eqf_last zae zaq zaq zax
end Go.Proofs.Ytnfemjnajfdepaa.Q
namespace Go.Proofs.Ytnfemjnajfdepaa.Q
open RowKit YtnfemjnajfdepaaW.PrintWords YtnfemjnajfdepaaW.PrintLast YtnfemjnajfdepaaW.PrintMore
attribute [local go_sem] max2_int min2_int max_two min_two max_three min_three max_four min_four
attribute [local go_sem high] eqA27
def recouplaw22_anchored.f(k:Nat):Option (Bool):=(share_Best.f k (([0,1]:List Int)) (([(([(⟨0,1⟩:S61),(⟨1,2⟩:S61)]:List (S61))),(([(⟨0,3⟩:S61),(⟨1,6⟩:S61)]:List (S61)))]:List (List (S61)))) (([2,3]:List Int))).bind fun D=>(if D.2.2.2.2.1=true then(if D.2.2.2.2.2=0 then(some (D.1==0&&(D.2.1==1&&(D.2.2.1==2&&(D.2.2.2.1==2)))))else(some false))else(some false))
theorem recouplaw22_anchored.mono: ∀k,LeO (recouplaw22_anchored.f k) (recouplaw22_anchored.f (k+1)):=by
 intro k;unfold recouplaw22_anchored.f
 with_reducible repeat' first|exact share_Best.mono _ _ _ _|exact LeO.refl _|exact LeO.none _|refine LeO.ite ?_ ?_|refine LeO.bind ?_ (fun _=>?_)
theorem recouplaw22_anchored.calls(k:Nat)(r:Bool)(w:World)(h:recouplaw22_anchored.f k=some r):
 Calls Try.prog 12 #[] w fun e w'=>e= .returned (.bool r)/\Below w.heap.size w w':=by
 have dt:=Try.underlying61;have dq:=Try.underlying25;have dr:=Try.underlying27;have HB:=aK (Below.refl w.heap.size w);have H:((share_Best.f k (([0,1]:List Int)) (([(([(⟨0,1⟩:S61),(⟨1,2⟩:S61)]:List (S61))),(([(⟨0,3⟩:S61),(⟨1,6⟩:S61)]:List (S61)))]:List (List (S61)))) (([2,3]:List Int))).bind fun G=>(if G.2.2.2.2.1=true then(if G.2.2.2.2.2=0 then(some (G.1==0&&(G.2.1==1&&(G.2.2.1==2&&(G.2.2.2.1==2)))))else(some false))else(some false)))=some r:=h;clear h;obtain⟨Z,an⟩: ∃y_:List Int,y_=(([0,1]:List Int)):=⟨_,rfl⟩
 replace H:((share_Best.f k Z (([(([(⟨0,1⟩:S61),(⟨1,2⟩:S61)]:List (S61))),(([(⟨0,3⟩:S61),(⟨1,6⟩:S61)]:List (S61)))]:List (List (S61)))) (([2,3]:List Int))).bind fun G=>(if G.2.2.2.2.1=true then(if G.2.2.2.2.2=0 then(some (G.1==0&&(G.2.1==1&&(G.2.2.1==2&&(G.2.2.2.1==2)))))else(some false))else(some false)))=some r:=zH an H
 have aa:=aK an;clear an;obtain⟨X,ao⟩: ∃y_:List (S61),y_=(([(⟨0,1⟩:S61),(⟨1,2⟩:S61)]:List (S61))):=⟨_,rfl⟩
 replace H:((share_Best.f k Z (([X,(([(⟨0,3⟩:S61),(⟨1,6⟩:S61)]:List (S61)))]:List (List (S61)))) (([2,3]:List Int))).bind fun G=>(if G.2.2.2.2.1=true then(if G.2.2.2.2.2=0 then(some (G.1==0&&(G.2.1==1&&(G.2.2.1==2&&(G.2.2.2.1==2)))))else(some false))else(some false)))=some r:=zH ao H
 have ab:=aK ao;clear ao;obtain⟨Y,ap⟩: ∃y_:List (S61),y_=(([(⟨0,3⟩:S61),(⟨1,6⟩:S61)]:List (S61))):=⟨_,rfl⟩
 replace H:((share_Best.f k Z (([X,Y]:List (List (S61)))) (([2,3]:List Int))).bind fun G=>(if G.2.2.2.2.1=true then(if G.2.2.2.2.2=0 then(some (G.1==0&&(G.2.1==1&&(G.2.2.1==2&&(G.2.2.2.1==2)))))else(some false))else(some false)))=some r:=zH ap H
 have ac:=aK ap;clear ap;obtain⟨ah,aq⟩: ∃y_:List (List (S61)),y_=(([X,Y]:List (List (S61)))):=⟨_,rfl⟩
 replace H:((share_Best.f k Z ah (([2,3]:List Int))).bind fun G=>(if G.2.2.2.2.1=true then(if G.2.2.2.2.2=0 then(some (G.1==0&&(G.2.1==1&&(G.2.2.1==2&&(G.2.2.2.1==2)))))else(some false))else(some false)))=some r:=zH aq H
 have ae:=aK aq;clear aq;obtain⟨au,ar⟩: ∃y_:List Int,y_=(([2,3]:List Int)):=⟨_,rfl⟩
 replace H:((share_Best.f k Z ah au).bind fun G=>(if G.2.2.2.2.1=true then(if G.2.2.2.2.2=0 then(some (G.1==0&&(G.2.1==1&&(G.2.2.1==2&&(G.2.2.2.1==2)))))else(some false))else(some false)))=some r:=zH ar H
 have af:=aK ar;clear ar;obtain⟨⟨a9,ba,bb,bc,dm,ag⟩,A1,H⟩:=bindO H
 (try dsimp only at H)
 by_cases c2:dm=true
 ·subst c2;rw[if_pos rfl]at H
  by_cases c3:ag=0
  ·rw[if_pos c3]at H
   have c3b0:(ag==0)=true:=beq_iff_eq.mpr c3;have c3b1:(ag !=0)=false:=bne_eq_false_iff_eq.mpr c3;clear c3;obtain rfl:=Option.some.inj H
   go_enter Try.func12,Try.ntmps12
   go_wp2_with (first|((with_reducible refine gate_dst (N:=5) rfl ?_);refine Kd.R_lit (Kd.int .i64) _ 3 ?hg (N:=5) ?hd (xs:=([0,1]:List Int)) (inner:= [.int .i64 0,.int .i64 1]) (ok:=fun _=>True) (okp:=fun _=>True) ?hr ?hp (fun _ hk=>hk) trivial (Below.refl _ _) (Nat.le_refl _) zac ?_;(case hd=>rfl);(case hg=>rfl);(case hr=>first|(go_simp;done)|(go_simp;rfl));(case hp=>exact(Reps.one (show Kd.M (Kd.int .i64) _ _ _ 0 [.int .i64 0]from rfl) (Reps.one (show Kd.M (Kd.int .i64) _ _ _ 1 [.int .i64 1]from rfl) (Reps.none _ _))));intro O w4 a7 hb hg_ hnew_;clear hg_ hnew_;(first|rw[<-aa.out]at a7|(simp only[Int.reduceToNat]at a7;rw[<-aa.out]at a7));have D:=aK (Kd.R_lower a7 (below_size (hbA HB.out)));replace HB:=hbB HB hb;clear hb a7)|((with_reducible refine gate_dst (N:=8) rfl ?_);refine Kd.R_lit k61 _ 61 ?hg (N:=8) ?hd (xs:=([(⟨0,1⟩:S61),(⟨1,2⟩:S61)]:List (S61))) (inner:= [.int .i64 0,.int .u8 1,.int .i64 1,.int .u8 2]) (ok:=fun _=>True) (okp:=fun _=>True) ?hr ?hp (fun _ hk=>hk) trivial (Below.refl _ _) (Nat.le_refl _) zac ?_;(case hd=>rfl);(case hg=>rfl);(case hr=>first|(go_simp;done)|(go_simp;rfl));(case hp=>exact(Reps.c2 (show Kd.M k61 _ _ _ (⟨0,1⟩:S61) [.int .i64 0,.int .u8 1]from(k61_mkM _ _ _ (⟨0,1⟩:S61))) (Reps.c2 (show Kd.M k61 _ _ _ (⟨1,2⟩:S61) [.int .i64 1,.int .u8 2]from(k61_mkM _ _ _ (⟨1,2⟩:S61))) (Reps.none _ _))));intro bp w6 a8 hb hg_ hnew_;clear hg_ hnew_;(first|rw[<-ab.out]at a8|(simp only[Int.reduceToNat]at a8;rw[<-ab.out]at a8));replace D:=kdB D hb;have J:=aK (Kd.R_lower a8 (below_size (hbA HB.out)));replace HB:=hbB HB hb;clear hb a8)|((with_reducible refine gate_dst (N:=11) rfl ?_);refine Kd.R_lit k61 _ 61 ?hg (N:=11) ?hd (xs:=([(⟨0,3⟩:S61),(⟨1,6⟩:S61)]:List (S61))) (inner:= [.int .i64 0,.int .u8 3,.int .i64 1,.int .u8 6]) (ok:=fun _=>True) (okp:=fun _=>True) ?hr ?hp (fun _ hk=>hk) trivial (Below.refl _ _) (Nat.le_refl _) zac ?_;(case hd=>rfl);(case hg=>rfl);(case hr=>first|(go_simp;done)|(go_simp;rfl));(case hp=>exact(Reps.c2 (show Kd.M k61 _ _ _ (⟨0,3⟩:S61) [.int .i64 0,.int .u8 3]from(k61_mkM _ _ _ (⟨0,3⟩:S61))) (Reps.c2 (show Kd.M k61 _ _ _ (⟨1,6⟩:S61) [.int .i64 1,.int .u8 6]from(k61_mkM _ _ _ (⟨1,6⟩:S61))) (Reps.none _ _))));intro bq w8 a4 hb hg_ hnew_;clear hg_ hnew_;(first|rw[<-ac.out]at a4|(simp only[Int.reduceToNat]at a4;rw[<-ac.out]at a4));replace D:=kdB D hb;have U:=aK (Kd.R_lower (Kd.R_new' a4 (Kd.R_lt (kdA J.out))) (below_size (hbA HB.out)));replace J:=aK (Kd.R_elder' (kdA J.out) (Kd.R_base a4) hb);replace HB:=hbB HB hb;clear hb a4;obtain⟨bd,bj,ce⟩:=Kd.R_slice J.out;subst ce;obtain⟨be,bk,cf⟩:=Kd.R_slice U.out;subst cf)|((with_reducible refine gate_dst (N:=12) rfl ?_);refine Kd.N_lit (Kd.slice 61 k61) _ 59 ?hg (N':=12) ?hd (xs:=([X,Y]:List (List (S61)))) (inner:= [.slice bd X.length bj,.slice be Y.length bk]) (ok:=(fun k_=>some k_≠(O:Value).ownBlock)) (okp:=(fun k_=>some k_≠(O:Value).ownBlock)) ?hr ?hp (fun _ hk=>hk) ((show∀k_,w8.heap.size<=k_->(fun k_=>some k_≠(O:Value).ownBlock) k_ from fun k_ hk=>Kd.fresh' (Kd.R_lt (kdA D.out)) k_ hk) _ (Nat.le_refl _)) (Below.refl _ _) (Nat.le_refl _) zac ?_;(case hd=>rfl);(case hg=>rfl);(case hr=>first|(go_simp;done)|(go_simp;rfl));(case hp=>exact(Reps.one (show Kd.FK (Kd.slice 61 k61) _ _ X [.slice bd X.length bj]from(Kd.FK_slice_mk (Kd.R_reads' (Kd.R_mono (ok':=(fun k_=>some k_≠(O:Value).ownBlock)) (Kd.R_apart' (J.out) (Kd.R_typed D.out) zab) (fun k_ hk=>hk.2))).2.1 (Kd.R_F (Kd.R_mono (ok':=(fun k_=>some k_≠(O:Value).ownBlock)) (Kd.R_apart' (J.out) (Kd.R_typed D.out) zab) (fun k_ hk=>hk.2))))) (Reps.one (show Kd.FK (Kd.slice 61 k61) _ _ Y [.slice be Y.length bk]from(Kd.FK_slice_mk (Kd.R_reads' (Kd.R_mono (ok':=(fun k_=>some k_≠(O:Value).ownBlock)) (Kd.R_apart' (U.out) (Kd.R_typed D.out) zab) (fun k_ hk=>hk.2))).2.1 (Kd.R_F (Kd.R_mono (ok':=(fun k_=>some k_≠(O:Value).ownBlock)) (Kd.R_apart' (U.out) (Kd.R_typed D.out) zab) (fun k_ hk=>hk.2))))) (Reps.none _ _))));intro br du ax hb hg_ hnew_;clear hg_ hnew_;(first|rw[<-ae.out]at ax|(simp only[Int.reduceToNat]at ax;rw[<-ae.out]at ax));have n0_:=aK (Kd.R_below (kdA D.out) hb);have n1_:=aK (Kd.N_lower ax (below_size (hbA HB.out)));have n2_:=aK (below_step (hbA HB.out) hb);clear D;clear HB;clear J;clear U;have D:=n0_;have I:=n1_;have HB:=n2_;clear n0_ n1_ n2_;clear hb ax)|((with_reducible refine gate_dst (N:=13) rfl ?_);refine Kd.R_lit (Kd.int .i64) _ 3 ?hg (N:=13) ?hd (xs:=([2,3]:List Int)) (inner:= [.int .i64 2,.int .i64 3]) (ok:=fun _=>True) (okp:=fun _=>True) ?hr ?hp (fun _ hk=>hk) trivial (Below.refl _ _) (Nat.le_refl _) zac ?_;(case hd=>rfl);(case hg=>rfl);(case hr=>first|(go_simp;done)|(go_simp;rfl));(case hp=>exact(Reps.one (show Kd.M (Kd.int .i64) _ _ _ 2 [.int .i64 2]from rfl) (Reps.one (show Kd.M (Kd.int .i64) _ _ _ 3 [.int .i64 3]from rfl) (Reps.none _ _))));intro bs dv ak hb hg_ hnew_;clear hg_ hnew_;(first|rw[<-af.out]at ak|(simp only[Int.reduceToNat]at ak;rw[<-af.out]at ak));replace I:=aK (Kd.N_elder' (by(with_reducible repeat(first|apply Kd.N_alloc|apply Kd.N_drewN|apply Kd.N_drew));exact I.out) (Kd.R_base ak) hb);have L:=aK (Kd.R_lower (Kd.R_new' ak (Kd.R_lt (kdA D.out))) (below_size (hbA HB.out)));replace D:=aK (Kd.R_elder' (kdA D.out) (Kd.R_base ak) hb);replace HB:=hbB HB hb;clear hb ak;obtain⟨bu,b4,cg⟩:=Kd.R_slice L.out;subst cg;obtain⟨bv,b5,ch⟩:=Kd.N_slice I.out;subst ch;obtain⟨bw,b6,ci⟩:=Kd.R_slice D.out;subst ci)|((with_reducible refine gC 10 rfl ?_);refine cG (some 15) Try.func10 #[.agg #[.slice bw Z.length b6,.slice bv ah.length b5,.slice bu au.length b4]] ?_;(with_reducible refine(share_Best.calls k _ _ Z _ _ ah _ _ au a9 ba bb bc true ag _ ?side1 ?side2 ?side3 ?side4 ?side5 ?side6 A1.out).mono ?_);(case side1=>exact kcA (Kd.R_reads' D.out).2.2);(case side2=>exact(Kd.R_reads' D.out).2.1);(case side3=>repeat(first|exact(Kd.N_reads' I.out).2.2|(with_reducible refine Kd.C_alloc ?_ _)|(with_reducible refine Kd.C_drewN ?_ _)|(with_reducible refine Kd.C_drew ?_)));(case side4=>exact(Kd.N_reads' I.out).2.1);(case side5=>exact kcA (Kd.R_reads' L.out).2.2);(case side6=>exact(Kd.R_reads' L.out).2.1);rintro e dw ⟨rfl,hb⟩;refine⟨_,rfl,?_⟩;replace D:=kdB D hb;replace I:=aK (Kd.N_below (by(with_reducible repeat(first|apply Kd.N_alloc|apply Kd.N_drewN|apply Kd.N_drew));exact I.out) hb);replace L:=kdB L hb;replace HB:=hbB HB hb;(try clear hb))|((with_reducible refine gD 1 rfl ?_);refine bE 1 #[.int .i64 0,.int .i64 0,.int .u8 0,.int .i64 0] 27 ?_;intro aj hg dx hbox hb;replace D:=kdB D hb;replace I:=aK (Kd.N_below (Kd.N_elderB (by(with_reducible repeat(first|apply Kd.N_alloc|apply Kd.N_drewN|apply Kd.N_drew));exact I.out) aj (Nat.le_of_eq hg.symm)) hb);replace L:=kdB L hb;have ai:=aK (hbox);have a6:=hbS HB hg;have a5:=hbS HB hg;replace HB:=hbB HB hb;clear hb hbox hg;obtain⟨cu,cv,cw,cx,da,db,dc,dd⟩:=cell4 ai))
   go_ret
   exact⟨rfE,hbA HB.out⟩
  ·rw[if_neg c3]at H
   have c3b0:(ag==0)=false:=beq_eq_false_iff_ne.mpr c3;have c3b1:(ag !=0)=true:=bne_iff_ne.mpr c3;obtain rfl:=Option.some.inj H
   go_enter Try.func12,Try.ntmps12
   go_wp2_with (first|((with_reducible refine gate_dst (N:=5) rfl ?_);refine Kd.R_lit (Kd.int .i64) _ 3 ?hg (N:=5) ?hd (xs:=([0,1]:List Int)) (inner:= [.int .i64 0,.int .i64 1]) (ok:=fun _=>True) (okp:=fun _=>True) ?hr ?hp (fun _ hk=>hk) trivial (Below.refl _ _) (Nat.le_refl _) zac ?_;(case hd=>rfl);(case hg=>rfl);(case hr=>first|(go_simp;done)|(go_simp;rfl));(case hp=>exact(Reps.one (show Kd.M (Kd.int .i64) _ _ _ 0 [.int .i64 0]from rfl) (Reps.one (show Kd.M (Kd.int .i64) _ _ _ 1 [.int .i64 1]from rfl) (Reps.none _ _))));intro O dy ay hb hg_ hnew_;clear hg_ hnew_;(first|rw[<-aa.out]at ay|(simp only[Int.reduceToNat]at ay;rw[<-aa.out]at ay));have D:=aK (Kd.R_lower ay (below_size (hbA HB.out)));replace HB:=hbB HB hb;clear hb ay)|((with_reducible refine gate_dst (N:=8) rfl ?_);refine Kd.R_lit k61 _ 61 ?hg (N:=8) ?hd (xs:=([(⟨0,1⟩:S61),(⟨1,2⟩:S61)]:List (S61))) (inner:= [.int .i64 0,.int .u8 1,.int .i64 1,.int .u8 2]) (ok:=fun _=>True) (okp:=fun _=>True) ?hr ?hp (fun _ hk=>hk) trivial (Below.refl _ _) (Nat.le_refl _) zac ?_;(case hd=>rfl);(case hg=>rfl);(case hr=>first|(go_simp;done)|(go_simp;rfl));(case hp=>exact(Reps.c2 (show Kd.M k61 _ _ _ (⟨0,1⟩:S61) [.int .i64 0,.int .u8 1]from(k61_mkM _ _ _ (⟨0,1⟩:S61))) (Reps.c2 (show Kd.M k61 _ _ _ (⟨1,2⟩:S61) [.int .i64 1,.int .u8 2]from(k61_mkM _ _ _ (⟨1,2⟩:S61))) (Reps.none _ _))));intro bp dz az hb hg_ hnew_;clear hg_ hnew_;(first|rw[<-ab.out]at az|(simp only[Int.reduceToNat]at az;rw[<-ab.out]at az));replace D:=kdB D hb;have J:=aK (Kd.R_lower az (below_size (hbA HB.out)));replace HB:=hbB HB hb;clear hb az)|((with_reducible refine gate_dst (N:=11) rfl ?_);refine Kd.R_lit k61 _ 61 ?hg (N:=11) ?hd (xs:=([(⟨0,3⟩:S61),(⟨1,6⟩:S61)]:List (S61))) (inner:= [.int .i64 0,.int .u8 3,.int .i64 1,.int .u8 6]) (ok:=fun _=>True) (okp:=fun _=>True) ?hr ?hp (fun _ hk=>hk) trivial (Below.refl _ _) (Nat.le_refl _) zac ?_;(case hd=>rfl);(case hg=>rfl);(case hr=>first|(go_simp;done)|(go_simp;rfl));(case hp=>exact(Reps.c2 (show Kd.M k61 _ _ _ (⟨0,3⟩:S61) [.int .i64 0,.int .u8 3]from(k61_mkM _ _ _ (⟨0,3⟩:S61))) (Reps.c2 (show Kd.M k61 _ _ _ (⟨1,6⟩:S61) [.int .i64 1,.int .u8 6]from(k61_mkM _ _ _ (⟨1,6⟩:S61))) (Reps.none _ _))));intro bq dn av hb hg_ hnew_;clear hg_ hnew_;(first|rw[<-ac.out]at av|(simp only[Int.reduceToNat]at av;rw[<-ac.out]at av));replace D:=kdB D hb;have U:=aK (Kd.R_lower (Kd.R_new' av (Kd.R_lt (kdA J.out))) (below_size (hbA HB.out)));replace J:=aK (Kd.R_elder' (kdA J.out) (Kd.R_base av) hb);replace HB:=hbB HB hb;clear hb av;obtain⟨bf,bl,cj⟩:=Kd.R_slice J.out;subst cj;obtain⟨bg,bm,ck⟩:=Kd.R_slice U.out;subst ck)|((with_reducible refine gate_dst (N:=12) rfl ?_);refine Kd.N_lit (Kd.slice 61 k61) _ 59 ?hg (N':=12) ?hd (xs:=([X,Y]:List (List (S61)))) (inner:= [.slice bf X.length bl,.slice bg Y.length bm]) (ok:=(fun k_=>some k_≠(O:Value).ownBlock)) (okp:=(fun k_=>some k_≠(O:Value).ownBlock)) ?hr ?hp (fun _ hk=>hk) ((show∀k_,dn.heap.size<=k_->(fun k_=>some k_≠(O:Value).ownBlock) k_ from fun k_ hk=>Kd.fresh' (Kd.R_lt (kdA D.out)) k_ hk) _ (Nat.le_refl _)) (Below.refl _ _) (Nat.le_refl _) zac ?_;(case hd=>rfl);(case hg=>rfl);(case hr=>first|(go_simp;done)|(go_simp;rfl));(case hp=>exact(Reps.one (show Kd.FK (Kd.slice 61 k61) _ _ X [.slice bf X.length bl]from(Kd.FK_slice_mk (Kd.R_reads' (Kd.R_mono (ok':=(fun k_=>some k_≠(O:Value).ownBlock)) (Kd.R_apart' (J.out) (Kd.R_typed D.out) zab) (fun k_ hk=>hk.2))).2.1 (Kd.R_F (Kd.R_mono (ok':=(fun k_=>some k_≠(O:Value).ownBlock)) (Kd.R_apart' (J.out) (Kd.R_typed D.out) zab) (fun k_ hk=>hk.2))))) (Reps.one (show Kd.FK (Kd.slice 61 k61) _ _ Y [.slice bg Y.length bm]from(Kd.FK_slice_mk (Kd.R_reads' (Kd.R_mono (ok':=(fun k_=>some k_≠(O:Value).ownBlock)) (Kd.R_apart' (U.out) (Kd.R_typed D.out) zab) (fun k_ hk=>hk.2))).2.1 (Kd.R_F (Kd.R_mono (ok':=(fun k_=>some k_≠(O:Value).ownBlock)) (Kd.R_apart' (U.out) (Kd.R_typed D.out) zab) (fun k_ hk=>hk.2))))) (Reps.none _ _))));intro br d0 a0 hb hg_ hnew_;clear hg_ hnew_;(first|rw[<-ae.out]at a0|(simp only[Int.reduceToNat]at a0;rw[<-ae.out]at a0));have n0_:=aK (Kd.R_below (kdA D.out) hb);have n1_:=aK (Kd.N_lower a0 (below_size (hbA HB.out)));have n2_:=aK (below_step (hbA HB.out) hb);clear D;clear HB;clear J;clear U;have D:=n0_;have I:=n1_;have HB:=n2_;clear n0_ n1_ n2_;clear hb a0)|((with_reducible refine gate_dst (N:=13) rfl ?_);refine Kd.R_lit (Kd.int .i64) _ 3 ?hg (N:=13) ?hd (xs:=([2,3]:List Int)) (inner:= [.int .i64 2,.int .i64 3]) (ok:=fun _=>True) (okp:=fun _=>True) ?hr ?hp (fun _ hk=>hk) trivial (Below.refl _ _) (Nat.le_refl _) zac ?_;(case hd=>rfl);(case hg=>rfl);(case hr=>first|(go_simp;done)|(go_simp;rfl));(case hp=>exact(Reps.one (show Kd.M (Kd.int .i64) _ _ _ 2 [.int .i64 2]from rfl) (Reps.one (show Kd.M (Kd.int .i64) _ _ _ 3 [.int .i64 3]from rfl) (Reps.none _ _))));intro bs d1 al hb hg_ hnew_;clear hg_ hnew_;(first|rw[<-af.out]at al|(simp only[Int.reduceToNat]at al;rw[<-af.out]at al));replace I:=aK (Kd.N_elder' (by(with_reducible repeat(first|apply Kd.N_alloc|apply Kd.N_drewN|apply Kd.N_drew));exact I.out) (Kd.R_base al) hb);have L:=aK (Kd.R_lower (Kd.R_new' al (Kd.R_lt (kdA D.out))) (below_size (hbA HB.out)));replace D:=aK (Kd.R_elder' (kdA D.out) (Kd.R_base al) hb);replace HB:=hbB HB hb;clear hb al;obtain⟨bx,b7,cl⟩:=Kd.R_slice L.out;subst cl;obtain⟨bz,b8,cm⟩:=Kd.N_slice I.out;subst cm;obtain⟨b0,b9,cn⟩:=Kd.R_slice D.out;subst cn)|((with_reducible refine gC 10 rfl ?_);refine cG (some 15) Try.func10 #[.agg #[.slice b0 Z.length b9,.slice bz ah.length b8,.slice bx au.length b7]] ?_;(with_reducible refine(share_Best.calls k _ _ Z _ _ ah _ _ au a9 ba bb bc true ag _ ?side1 ?side2 ?side3 ?side4 ?side5 ?side6 A1.out).mono ?_);(case side1=>exact kcA (Kd.R_reads' D.out).2.2);(case side2=>exact(Kd.R_reads' D.out).2.1);(case side3=>repeat(first|exact(Kd.N_reads' I.out).2.2|(with_reducible refine Kd.C_alloc ?_ _)|(with_reducible refine Kd.C_drewN ?_ _)|(with_reducible refine Kd.C_drew ?_)));(case side4=>exact(Kd.N_reads' I.out).2.1);(case side5=>exact kcA (Kd.R_reads' L.out).2.2);(case side6=>exact(Kd.R_reads' L.out).2.1);rintro e d2 ⟨rfl,hb⟩;refine⟨_,rfl,?_⟩;replace D:=kdB D hb;replace I:=aK (Kd.N_below (by(with_reducible repeat(first|apply Kd.N_alloc|apply Kd.N_drewN|apply Kd.N_drew));exact I.out) hb);replace L:=kdB L hb;replace HB:=hbB HB hb;(try clear hb))|((with_reducible refine gD 1 rfl ?_);refine bE 1 #[.int .i64 0,.int .i64 0,.int .u8 0,.int .i64 0] 27 ?_;intro aj hg d3 hbox hb;replace D:=kdB D hb;replace I:=aK (Kd.N_below (Kd.N_elderB (by(with_reducible repeat(first|apply Kd.N_alloc|apply Kd.N_drewN|apply Kd.N_drew));exact I.out) aj (Nat.le_of_eq hg.symm)) hb);replace L:=kdB L hb;have ai:=aK (hbox);have a6:=hbS HB hg;have a5:=hbS HB hg;replace HB:=hbB HB hb;clear hb hbox hg;obtain⟨cy,cz,c4,c5,de,df,dg,dh⟩:=cell4 ai))
   go_ret
   exact⟨rfE,hbA HB.out⟩
 ·replace c2:=Bool.eq_false_iff.mpr c2;subst c2;rw[if_neg nofT]at H
  obtain rfl:=Option.some.inj H
  go_enter Try.func12,Try.ntmps12
  go_wp2_with (first|((with_reducible refine gate_dst (N:=5) rfl ?_);refine Kd.R_lit (Kd.int .i64) _ 3 ?hg (N:=5) ?hd (xs:=([0,1]:List Int)) (inner:= [.int .i64 0,.int .i64 1]) (ok:=fun _=>True) (okp:=fun _=>True) ?hr ?hp (fun _ hk=>hk) trivial (Below.refl _ _) (Nat.le_refl _) zac ?_;(case hd=>rfl);(case hg=>rfl);(case hr=>first|(go_simp;done)|(go_simp;rfl));(case hp=>exact(Reps.one (show Kd.M (Kd.int .i64) _ _ _ 0 [.int .i64 0]from rfl) (Reps.one (show Kd.M (Kd.int .i64) _ _ _ 1 [.int .i64 1]from rfl) (Reps.none _ _))));intro O d4 a1 hb hg_ hnew_;clear hg_ hnew_;(first|rw[<-aa.out]at a1|(simp only[Int.reduceToNat]at a1;rw[<-aa.out]at a1));have D:=aK (Kd.R_lower a1 (below_size (hbA HB.out)));replace HB:=hbB HB hb;clear hb a1)|((with_reducible refine gate_dst (N:=8) rfl ?_);refine Kd.R_lit k61 _ 61 ?hg (N:=8) ?hd (xs:=([(⟨0,1⟩:S61),(⟨1,2⟩:S61)]:List (S61))) (inner:= [.int .i64 0,.int .u8 1,.int .i64 1,.int .u8 2]) (ok:=fun _=>True) (okp:=fun _=>True) ?hr ?hp (fun _ hk=>hk) trivial (Below.refl _ _) (Nat.le_refl _) zac ?_;(case hd=>rfl);(case hg=>rfl);(case hr=>first|(go_simp;done)|(go_simp;rfl));(case hp=>exact(Reps.c2 (show Kd.M k61 _ _ _ (⟨0,1⟩:S61) [.int .i64 0,.int .u8 1]from(k61_mkM _ _ _ (⟨0,1⟩:S61))) (Reps.c2 (show Kd.M k61 _ _ _ (⟨1,2⟩:S61) [.int .i64 1,.int .u8 2]from(k61_mkM _ _ _ (⟨1,2⟩:S61))) (Reps.none _ _))));intro bp d5 a2 hb hg_ hnew_;clear hg_ hnew_;(first|rw[<-ab.out]at a2|(simp only[Int.reduceToNat]at a2;rw[<-ab.out]at a2));replace D:=kdB D hb;have J:=aK (Kd.R_lower a2 (below_size (hbA HB.out)));replace HB:=hbB HB hb;clear hb a2)|((with_reducible refine gate_dst (N:=11) rfl ?_);refine Kd.R_lit k61 _ 61 ?hg (N:=11) ?hd (xs:=([(⟨0,3⟩:S61),(⟨1,6⟩:S61)]:List (S61))) (inner:= [.int .i64 0,.int .u8 3,.int .i64 1,.int .u8 6]) (ok:=fun _=>True) (okp:=fun _=>True) ?hr ?hp (fun _ hk=>hk) trivial (Below.refl _ _) (Nat.le_refl _) zac ?_;(case hd=>rfl);(case hg=>rfl);(case hr=>first|(go_simp;done)|(go_simp;rfl));(case hp=>exact(Reps.c2 (show Kd.M k61 _ _ _ (⟨0,3⟩:S61) [.int .i64 0,.int .u8 3]from(k61_mkM _ _ _ (⟨0,3⟩:S61))) (Reps.c2 (show Kd.M k61 _ _ _ (⟨1,6⟩:S61) [.int .i64 1,.int .u8 6]from(k61_mkM _ _ _ (⟨1,6⟩:S61))) (Reps.none _ _))));intro bq dp aw hb hg_ hnew_;clear hg_ hnew_;(first|rw[<-ac.out]at aw|(simp only[Int.reduceToNat]at aw;rw[<-ac.out]at aw));replace D:=kdB D hb;have U:=aK (Kd.R_lower (Kd.R_new' aw (Kd.R_lt (kdA J.out))) (below_size (hbA HB.out)));replace J:=aK (Kd.R_elder' (kdA J.out) (Kd.R_base aw) hb);replace HB:=hbB HB hb;clear hb aw;obtain⟨bh,bn,co⟩:=Kd.R_slice J.out;subst co;obtain⟨bi,bo,cp⟩:=Kd.R_slice U.out;subst cp)|((with_reducible refine gate_dst (N:=12) rfl ?_);refine Kd.N_lit (Kd.slice 61 k61) _ 59 ?hg (N':=12) ?hd (xs:=([X,Y]:List (List (S61)))) (inner:= [.slice bh X.length bn,.slice bi Y.length bo]) (ok:=(fun k_=>some k_≠(O:Value).ownBlock)) (okp:=(fun k_=>some k_≠(O:Value).ownBlock)) ?hr ?hp (fun _ hk=>hk) ((show∀k_,dp.heap.size<=k_->(fun k_=>some k_≠(O:Value).ownBlock) k_ from fun k_ hk=>Kd.fresh' (Kd.R_lt (kdA D.out)) k_ hk) _ (Nat.le_refl _)) (Below.refl _ _) (Nat.le_refl _) zac ?_;(case hd=>rfl);(case hg=>rfl);(case hr=>first|(go_simp;done)|(go_simp;rfl));(case hp=>exact(Reps.one (show Kd.FK (Kd.slice 61 k61) _ _ X [.slice bh X.length bn]from(Kd.FK_slice_mk (Kd.R_reads' (Kd.R_mono (ok':=(fun k_=>some k_≠(O:Value).ownBlock)) (Kd.R_apart' (J.out) (Kd.R_typed D.out) zab) (fun k_ hk=>hk.2))).2.1 (Kd.R_F (Kd.R_mono (ok':=(fun k_=>some k_≠(O:Value).ownBlock)) (Kd.R_apart' (J.out) (Kd.R_typed D.out) zab) (fun k_ hk=>hk.2))))) (Reps.one (show Kd.FK (Kd.slice 61 k61) _ _ Y [.slice bi Y.length bo]from(Kd.FK_slice_mk (Kd.R_reads' (Kd.R_mono (ok':=(fun k_=>some k_≠(O:Value).ownBlock)) (Kd.R_apart' (U.out) (Kd.R_typed D.out) zab) (fun k_ hk=>hk.2))).2.1 (Kd.R_F (Kd.R_mono (ok':=(fun k_=>some k_≠(O:Value).ownBlock)) (Kd.R_apart' (U.out) (Kd.R_typed D.out) zab) (fun k_ hk=>hk.2))))) (Reps.none _ _))));intro br d6 a3 hb hg_ hnew_;clear hg_ hnew_;(first|rw[<-ae.out]at a3|(simp only[Int.reduceToNat]at a3;rw[<-ae.out]at a3));have n0_:=aK (Kd.R_below (kdA D.out) hb);have n1_:=aK (Kd.N_lower a3 (below_size (hbA HB.out)));have n2_:=aK (below_step (hbA HB.out) hb);clear D;clear HB;clear J;clear U;have D:=n0_;have I:=n1_;have HB:=n2_;clear n0_ n1_ n2_;clear hb a3)|((with_reducible refine gate_dst (N:=13) rfl ?_);refine Kd.R_lit (Kd.int .i64) _ 3 ?hg (N:=13) ?hd (xs:=([2,3]:List Int)) (inner:= [.int .i64 2,.int .i64 3]) (ok:=fun _=>True) (okp:=fun _=>True) ?hr ?hp (fun _ hk=>hk) trivial (Below.refl _ _) (Nat.le_refl _) zac ?_;(case hd=>rfl);(case hg=>rfl);(case hr=>first|(go_simp;done)|(go_simp;rfl));(case hp=>exact(Reps.one (show Kd.M (Kd.int .i64) _ _ _ 2 [.int .i64 2]from rfl) (Reps.one (show Kd.M (Kd.int .i64) _ _ _ 3 [.int .i64 3]from rfl) (Reps.none _ _))));intro bs d7 am hb hg_ hnew_;clear hg_ hnew_;(first|rw[<-af.out]at am|(simp only[Int.reduceToNat]at am;rw[<-af.out]at am));replace I:=aK (Kd.N_elder' (by(with_reducible repeat(first|apply Kd.N_alloc|apply Kd.N_drewN|apply Kd.N_drew));exact I.out) (Kd.R_base am) hb);have L:=aK (Kd.R_lower (Kd.R_new' am (Kd.R_lt (kdA D.out))) (below_size (hbA HB.out)));replace D:=aK (Kd.R_elder' (kdA D.out) (Kd.R_base am) hb);replace HB:=hbB HB hb;clear hb am;obtain⟨b1,ca,cq⟩:=Kd.R_slice L.out;subst cq;obtain⟨b2,cb,cr⟩:=Kd.N_slice I.out;subst cr;obtain⟨b3,cd,ct⟩:=Kd.R_slice D.out;subst ct)|((with_reducible refine gC 10 rfl ?_);refine cG (some 15) Try.func10 #[.agg #[.slice b3 Z.length cd,.slice b2 ah.length cb,.slice b1 au.length ca]] ?_;(with_reducible refine(share_Best.calls k _ _ Z _ _ ah _ _ au a9 ba bb bc false ag _ ?side1 ?side2 ?side3 ?side4 ?side5 ?side6 A1.out).mono ?_);(case side1=>exact kcA (Kd.R_reads' D.out).2.2);(case side2=>exact(Kd.R_reads' D.out).2.1);(case side3=>repeat(first|exact(Kd.N_reads' I.out).2.2|(with_reducible refine Kd.C_alloc ?_ _)|(with_reducible refine Kd.C_drewN ?_ _)|(with_reducible refine Kd.C_drew ?_)));(case side4=>exact(Kd.N_reads' I.out).2.1);(case side5=>exact kcA (Kd.R_reads' L.out).2.2);(case side6=>exact(Kd.R_reads' L.out).2.1);rintro e d8 ⟨rfl,hb⟩;refine⟨_,rfl,?_⟩;replace D:=kdB D hb;replace I:=aK (Kd.N_below (by(with_reducible repeat(first|apply Kd.N_alloc|apply Kd.N_drewN|apply Kd.N_drew));exact I.out) hb);replace L:=kdB L hb;replace HB:=hbB HB hb;(try clear hb))|((with_reducible refine gD 1 rfl ?_);refine bE 1 #[.int .i64 0,.int .i64 0,.int .u8 0,.int .i64 0] 27 ?_;intro aj hg d9 hbox hb;replace D:=kdB D hb;replace I:=aK (Kd.N_below (Kd.N_elderB (by(with_reducible repeat(first|apply Kd.N_alloc|apply Kd.N_drewN|apply Kd.N_drew));exact I.out) aj (Nat.le_of_eq hg.symm)) hb);replace L:=kdB L hb;have ai:=aK (hbox);have a6:=hbS HB hg;have a5:=hbS HB hg;replace HB:=hbB HB hb;clear hb hbox hg;obtain⟨c6,c7,c8,c9,di,dj,dk,dl⟩:=cell4 ai))
  go_ret
  exact⟨rfE,hbA HB.out⟩
end Go.Proofs.Ytnfemjnajfdepaa.Q
namespace Go.Proofs.Ytnfemjnajfdepaa.Q
open RowKit YtnfemjnajfdepaaW.PrintWords YtnfemjnajfdepaaW.PrintLast YtnfemjnajfdepaaW.PrintMore
attribute [local go_sem] max2_int min2_int max_two min_two max_three min_three max_four min_four
def slices_Clone_int_int.f(l0:List Int):Option (List Int):=(some (([]:List Int):List Int)).bind fun D=>(if D.length+l0.length<17592186044416 then(some (D++l0))else(none))
theorem slices_Clone_int_int.calls(A0:Option Addr)(c0:Nat)(l0:List Int)(r:List Int)(w:World)(ac:Kd.C (Kd.int .i64) w A0 l0.length l0)(ab:l0.length<=c0)(h:slices_Clone_int_int.f l0=some r):
 Calls Try.prog 41 #[.slice A0 l0.length c0] w fun e w'=> ∃v0_:Value,e= .returned (v0_)/\Kd.R (Kd.int .i64) 3 w' w.heap.size (fun _=>True) v0_ r/\Below w.heap.size w w':=by
 have Z:=aK ac;have ag:=aK ab;clear ac ab;have HB:=aK (Below.refl w.heap.size w);have H:((some (([]:List Int):List Int)).bind fun D=>(if D.length+l0.length<17592186044416 then(some (D++l0))else(none)))=some r:=h;clear h;obtain⟨D,G⟩: ∃y_:List Int,y_=(([]:List Int)):=⟨_,rfl⟩
 replace H:(if D.length+l0.length<17592186044416 then(some (D++l0))else(none))=some r:=zH G H
 have J:=aK G;clear G;by_cases c2:D.length+l0.length<17592186044416
 ·rw[if_pos c2]at H
  have aa:=aK c2;clear c2;obtain⟨X,I⟩: ∃y_:List Int,y_=(D++l0):=⟨_,rfl⟩
  replace H:(some X)=some r:=zH I H
  have O:=aK I;clear I;obtain rfl:=Option.some.inj H;have qnil: ∀(w:World) (a:Option Addr) (n c n' c':Nat),(binOp .eql 22 (.slice a n c) (.slice none n' c')).run Try.prog w= .ok (.bool a.isNone) w:=fun w a n c n' c'=>Lib.run_eql_slice_nil w _ _ a n c n' c' Try.underlying22;obtain rfl|⟨a0,rfl⟩:A0=none∨ ∃a,A0=some a:=by cases A0<;>simp
  ·have h0:l0= []:=List.length_eq_zero_iff.1 (Nat.eq_zero_of_not_pos (fun hp=>by obtain⟨ad,e,_⟩:=Z.out.2.2 hp;cases e));have h1:X= []:=by rw[O.out,J.out,h0];rfl
   rw[h1];subst h0
   go_enter Try.func41,Try.ntmps41
   go_wp2
   go_ret
   exact⟨_,rfl,Kd.R_nil _ _ _ _ _,Below.refl _ _⟩
  ·go_enter Try.func41,Try.ntmps41
   go_wp2_with (first|((with_reducible refine gate_dst (N:=5) rfl ?_);refine Kd.R_lit (Kd.int .i64) _ 3 ?hg (N:=5) ?hd (xs:=([]:List Int)) (inner:= []) (ok:=fun _=>True) (okp:=fun _=>True) ?hr ?hp (fun _ hk=>hk) trivial (Below.refl _ _) (Nat.le_refl _) zac ?_;(case hd=>rfl);(case hg=>rfl);(case hr=>first|(go_simp;done)|(go_simp;rfl));(case hp=>exact(Reps.none _ _));intro ae w3 U hb hg_ hnew_;clear hg_ hnew_;(first|rw[<-J.out]at U|(simp only[Int.reduceToNat]at U;rw[<-J.out]at U));have L:=aK (Kd.R_lower U (below_size (hbA HB.out)));replace HB:=hbB HB hb;clear hb U)|((with_reducible refine gate_builtin (b:= .append) (xs:= #[.tmp 5,.tmp 6]) rfl ?_);at_builtin;refine Kd.R_append_rows (Kd.int .i64) (w0:=w) w.heap.size rfl (.tmp 5) (.tmp 6) 22 3 (.int .i64 0) 8 rfl Try.underlying22 info3 rfl zab zaa ae D l0 _ _ _ (fun _=>True) (fun _=>False) rfl rfl ?aO ?aR (fun _ _ h=>h) (fun _ h=>h.elim) ?aF ?aB ?aS ?aL ?_;(case aR=>exact kcB Z HB);(case aB=>exact(hbA HB.out));(case aF=>exact(fun _ _=>trivial));(case aO=>exact(kdA L.out));(case aS=>exact(below_size (hbA HB.out)));(case aL=>have:=aa.out;omega);intro af w5 ho hb hg hat;rw[<-O.out]at ho;have n0_:=aK (hb);have n1_:=aK (ho);clear HB;clear L;have HB:=n0_;have Y:=n1_;clear n0_ n1_;clear ho hb hg hat))
   go_ret
   exact⟨_,rfE,by(with_reducible repeat(first|apply Kd.R_alloc|apply Kd.R_drewN|apply Kd.R_drew));exact Y.out,hbA HB.out⟩
 ·rw[if_neg c2]at H
  exact absurd H zac
def api_Term_42.f(l0:List (S61)):Option ((List (S61))):=(some (([]:List (S61)):List (S61))).bind fun D=>(if D.length+l0.length<8796093022208 then(some (D++l0))else(none))
theorem api_Term_42.calls(A0:Option Addr)(c0:Nat)(l0:List (S61))(r:List (S61))(w:World)(ac:Kd.C k61 w A0 l0.length l0)(ab:l0.length<=c0)(h:api_Term_42.f l0=some r):
 Calls Try.prog 42 #[.slice A0 l0.length c0] w fun e w'=> ∃v0_:Value,e= .returned (v0_)/\Kd.R k61 61 w' w.heap.size (fun _=>True) v0_ r/\Below w.heap.size w w':=by
 have Z:=aK ac;have ag:=aK ab;clear ac ab;have HB:=aK (Below.refl w.heap.size w);have H:((some (([]:List (S61)):List (S61))).bind fun D=>(if D.length+l0.length<8796093022208 then(some (D++l0))else(none)))=some r:=h;clear h;obtain⟨D,G⟩: ∃y_:List (S61),y_=(([]:List (S61))):=⟨_,rfl⟩
 replace H:(if D.length+l0.length<8796093022208 then(some (D++l0))else(none))=some r:=zH G H
 have J:=aK G;clear G;by_cases c2:D.length+l0.length<8796093022208
 ·rw[if_pos c2]at H
  have aa:=aK c2;clear c2;obtain⟨X,I⟩: ∃y_:List (S61),y_=(D++l0):=⟨_,rfl⟩
  replace H:(some X)=some r:=zH I H
  have O:=aK I;clear I;obtain rfl:=Option.some.inj H;have qnil: ∀(w:World) (a:Option Addr) (n c n' c':Nat),(binOp .eql 59 (.slice a n c) (.slice none n' c')).run Try.prog w= .ok (.bool a.isNone) w:=fun w a n c n' c'=>Lib.run_eql_slice_nil w _ _ a n c n' c' Try.underlying59;obtain rfl|⟨a0,rfl⟩:A0=none∨ ∃a,A0=some a:=by cases A0<;>simp
  ·have h0:l0= []:=List.length_eq_zero_iff.1 (Nat.eq_zero_of_not_pos (fun hp=>by obtain⟨ad,e,_⟩:=Z.out.2.2 hp;cases e));have h1:X= []:=by rw[O.out,J.out,h0];rfl
   rw[h1];subst h0
   go_enter Try.func42,Try.ntmps42
   go_wp2
   go_ret
   exact⟨_,rfl,Kd.R_nil _ _ _ _ _,Below.refl _ _⟩
  ·go_enter Try.func42,Try.ntmps42
   go_wp2_with (first|((with_reducible refine gate_dst (N:=5) rfl ?_);refine Kd.R_lit k61 _ 61 ?hg (N:=5) ?hd (xs:=([]:List (S61))) (inner:= []) (ok:=fun _=>True) (okp:=fun _=>True) ?hr ?hp (fun _ hk=>hk) trivial (Below.refl _ _) (Nat.le_refl _) zac ?_;(case hd=>rfl);(case hg=>rfl);(case hr=>first|(go_simp;done)|(go_simp;rfl));(case hp=>exact(Reps.none _ _));intro ae w3 U hb hg_ hnew_;clear hg_ hnew_;(first|rw[<-J.out]at U|(simp only[Int.reduceToNat]at U;rw[<-J.out]at U));have L:=aK (Kd.R_lower U (below_size (hbA HB.out)));replace HB:=hbB HB hb;clear hb U)|((with_reducible refine gate_builtin (b:= .append) (xs:= #[.tmp 5,.tmp 6]) rfl ?_);at_builtin;refine Kd.R_append_rows k61 (w0:=w) w.heap.size rfl (.tmp 5) (.tmp 6) 59 61 (.agg #[(.int .i64 0),(.int .u8 0)]) 16 rfl Try.underlying59 info61 rfl zab zaa ae D l0 _ _ _ (fun _=>True) (fun _=>False) rfl rfl ?aO ?aR (fun _ _ h=>h) (fun _ h=>h.elim) ?aF ?aB ?aS ?aL ?_;(case aR=>exact kcB Z HB);(case aB=>exact(hbA HB.out));(case aF=>exact(fun _ _=>trivial));(case aO=>exact(kdA L.out));(case aS=>exact(below_size (hbA HB.out)));(case aL=>have:=aa.out;omega);intro af w5 ho hb hg hat;rw[<-O.out]at ho;have n0_:=aK (hb);have n1_:=aK (ho);clear HB;clear L;have HB:=n0_;have Y:=n1_;clear n0_ n1_;clear ho hb hg hat))
   go_ret
   exact⟨_,rfE,by(with_reducible repeat(first|apply Kd.R_alloc|apply Kd.R_drewN|apply Kd.R_drew));exact Y.out,hbA HB.out⟩
 ·rw[if_neg c2]at H
  exact absurd H zac
def share_copied.l0:Nat->List (List (S61))->Int->Int->List Int->List (List (S61))->List Int->Option (List Int×(List (List (S61)))×List Int)
 |0,_,_,_,_,_,_=>none
 |k+1,L,U,J,G,D,I=>if J<U then(if 0<=J then(if J<(L.length:Int)then((api_Term_42.f (rd_L5 L J)).bind fun O=>(if D.length<5864062014805 then(share_copied.l0 k L U (wrap64 (J+1)) G (D++ [O]) I)else(none)))else(none))else(none))else(some (G,D,I))
def share_copied.f(k:Nat)(G:List Int)(D:List (List (S61)))(I:List Int):Option (List Int×(List (List (S61)))×List Int):=(slices_Clone_int_int.f G).bind fun J=>((slices_Clone_int_int.f I).bind fun L=>(share_copied.l0 k D (D.length:Int) 0 J ([]:List (List (S61))) L))
theorem share_copied.mono_l: ∀k,(∀y0 y1 y2 y3 y4 y5,LeO (share_copied.l0 k y0 y1 y2 y3 y4 y5) (share_copied.l0 (k+1) y0 y1 y2 y3 y4 y5))
 |0=>fun _ _ _ _ _ _ r h=>by simp[share_copied.l0]at h
 |k+1=>by
  have D:=share_copied.mono_l k
  ·intro y0 y1 y2 y3 y4 y5;unfold share_copied.l0
   with_reducible repeat' first|exact D _ _ _ _ _ _|exact LeO.refl _|exact LeO.none _|refine LeO.ite ?_ ?_|refine LeO.bind ?_ (fun _=>?_)
theorem share_copied.mono: ∀a0 a1 a2 k,LeO (share_copied.f k a0 a1 a2) (share_copied.f (k+1) a0 a1 a2):=by
 intro a0 a1 a2 k;have D:=share_copied.mono_l k;unfold share_copied.f
 with_reducible repeat' first|exact D _ _ _ _ _ _|exact LeO.refl _|exact LeO.none _|refine LeO.ite ?_ ?_|refine LeO.bind ?_ (fun _=>?_)
def share_copied.T1:Bool×List (List Nat×List Nat):=(true,[([],[]),([0],[0]),([1],[1]),([],[]),([3],[3]),([4,2],[4]),([2,5],[2,5]),([],[]),([7,6,5,0,1,2,3,4,5,6,7],[6,7])])
def share_copied.B1:List Nat:= [0,1,3,0,8,31,63,0,255]
theorem share_copied.tab1:rtab .any (opsOf Try.f30 1)=share_copied.T1:=by kernel_rfl
theorem share_copied.bits1:waitsOk share_copied.T1.2 share_copied.B1=true:=by kernel_rfl
def share_copied.T5:Bool×List (List Nat×List Nat):=(true,[([],[]),([0],[0]),([],[]),([2],[2]),([3],[3]),([1,4,3],[1,4]),([0,1,2,3,4,5],[]),([6,5,5,0,1,2,3,4,5],[5,6])])
def share_copied.B5:List Nat:= [0,1,0,4,12,31,63,127]
theorem share_copied.tab5:rtab .any (opsOf Try.f30 5)=share_copied.T5:=by kernel_rfl
theorem share_copied.bits5:waitsOk share_copied.T5.2 share_copied.B5=true:=by kernel_rfl
theorem share_copied.calls(k:Nat)(ap:Option Addr)(ar:Nat)(ai:List Int)(aw:Option Addr)(av:Nat)(ab:List (List (S61)))(an:Option Addr)(ao:Nat)(ah:List Int)(r1:List Int)(r2:List (List (S61)))(r3:List Int)(w:World)(b5:Kd.C (Kd.int .i64) w ap ai.length ai)(bv:ai.length<=ar)(b6:Kd.C (Kd.slice 61 k61) w aw ab.length ab)(bw:ab.length<=av)(b7:Kd.C (Kd.int .i64) w an ah.length ah)(bx:ah.length<=ao)(h:share_copied.f k ai ab ah=some (r1,r2,r3)):
 Calls Try.prog 30 #[.agg #[.slice ap ai.length ar,.slice aw ab.length av,.slice an ah.length ao]] w fun e w'=> ∃v0_ v1_ v2_:Value,e= .returned (.agg #[v0_,v1_,v2_])/\Kd.R (Kd.int .i64) 3 w' w.heap.size (fun k_=>some k_≠(v2_:Value).ownBlock) v0_ r1/\Kd.S (Kd.slice 61 k61) 59 w' w.heap.size (fun _=>True) v1_ r2/\Kd.R (Kd.int .i64) 3 w' w.heap.size (fun k_=>some k_≠(v0_:Value).ownBlock) v2_ r3/\Below w.heap.size w w':=by
 have el:=Try.underlying25;have bq:=aK b5;have bn:=aK bv;clear b5 bv;have cm:=aK b6;have dz:=aK bw;clear b6 bw;have bh:=aK b7;have bg:=aK bx;clear b7 bx;have HB:=aK (Below.refl w.heap.size w);have H:((slices_Clone_int_int.f ai).bind fun aa=>((slices_Clone_int_int.f ah).bind fun ac=>(share_copied.l0 k ab (ab.length:Int) 0 aa ([]:List (List (S61))) ac)))=some (r1,r2,r3):=h;clear h;obtain⟨aa,A2,H⟩:=bindO H
 (try dsimp only at H)
 obtain⟨ac,A3,H⟩:=bindO H
 (try dsimp only at H)
 have H':=aK H;clear H
 go_enter Try.func30,Try.ntmps30
 try go_wp2_with (first|((with_reducible refine gD 1 rfl ?_);refine bE 1 #[.slice ap ai.length ar,.slice aw ab.length av,.slice an ah.length ao] 25 ?_;intro af hg w4 hbox hb;have D:=aK (hbox);have dx:=hbS HB hg;have dv:=hbS HB hg;replace HB:=hbB HB hb;clear hb hbox hg)|((with_reducible refine gD 2 rfl ?_);refine bE 2 #[.slice none 0 0,.slice none 0 0,.slice none 0 0] 25 ?_;intro ae hg w5 hbox hb;have J:=aK (hbox);have dy:=hbS HB hg;have dw:=hbS HB hg;replace HB:=hbB HB hb;have a1:=neL D hg;have a2:=neG D hg;replace D:=bkB D hb;clear hb hbox hg))
 replace D:=aK (blk_drew D.out);replace J:=aK (blk_drew J.out);replace HB:=aK (below_drew1 HB.out);refine start_ (n:=9) (S:=fun w'=>w'.cell? ⟨af,0,none⟩=some (.slice ap ai.length ar)/\w'.cell? ⟨af,1,none⟩=some (.slice aw ab.length av)/\w'.cell? ⟨af,2,none⟩=some (.slice an ah.length ao)) (ds:= []) (.replicate 9 false) zad rfl rfl (z3c D) (fun hHeld=>?_);refine with_tabW share_copied.tab1 share_copied.bits1 (fun HT_ HW_=>?_);generalize w5.drew=w6 at D J HB hHeld⊢;refine pu 0 (some 6) (mB 9 1) HT_ ?_;refine pu 3 (some 9) (mB 9 9) HT_ ?_;refine tk3 1 (some 7) (mB 9 11) HT_ HW_ hHeld ?_;refine tk3 4 (some 10) (mB 9 27) HT_ HW_ hHeld ?_;refine join_ (σ:=Value×Value×Nat) 1 (mB 9 255) (fun s_=> [(8,s_.1),(11,s_.2.1),(3,.pointer (some ⟨s_.2.2,0,none⟩)),(12,.agg #[s_.1,.slice none 0 0,s_.2.1])]) (fun s_ w'=>(w'.cell? ⟨af,0,none⟩=some (.slice ap ai.length ar)/\w'.cell? ⟨af,1,none⟩=some (.slice aw ab.length av)/\w'.cell? ⟨af,2,none⟩=some (.slice an ah.length ao))/\(Kd.R (Kd.int .i64) 3 w' w.heap.size (fun k_=>some k_≠(s_.2.1:Value).ownBlock) s_.1 aa)/\(Kd.R (Kd.int .i64) 3 w' w.heap.size (fun k_=>some k_≠(s_.1:Value).ownBlock) s_.2.1 ac)/\(w'.heap[af]? =some (.cells #[.slice ap ai.length ar,.slice aw ab.length av,.slice an ah.length ao] 25 (0,0)))/\(w'.heap[ae]? =some (.cells #[.slice none 0 0,.slice none 0 0,.slice none 0 0] 25 (0,0)))/\(w'.heap[s_.2.2]? =some (.cells #[.slice none 0 0,.slice none 0 0,.slice none 0 0] 25 (0,0)))/\(w.heap.size<=s_.2.2)/\(w.heap.size<=s_.2.2)/\(af≠s_.2.2)/\(s_.2.2≠af)/\(ae≠s_.2.2)/\(s_.2.2≠ae)/\(Below w.heap.size w w')) ?_ ?_;rotate_left
 ·intro hCont;refine two_ (i:=2) (j:=7) (Ni:=some 8) (Nj:=some 3) (mB 9 31) (mB 9 155) rfl rfl rfl rfl (two_of HT_.out zad) zab zab (fun K hK=>?_) (fun K hK=>?_)
  ·skip
   refine goes_ Try.func41 zad rfl #[.slice ap ai.length ar] zae rfl rfl (by(try simp only[List.map_toArray,List.map_cons,List.map_nil]);first|done|rfl|(simp only[List.length_drop,List.length_take];rfl)) ?_;with_reducible refine(slices_Clone_int_int.calls _ _ ai aa _ ?side1 ?side2 A2.out).mono ?_
   (case side1=>exact kcB bq HB)
   (case side2=>exact bn.out)
   rintro e w7 ⟨bk,rfl,am,hb⟩;refine⟨_,rfl,?_⟩;have X:=aK (Kd.R_lower am (below_size (hbA HB.out)));replace D:=bkB D hb;replace J:=bkB J hb;replace HB:=hbB HB hb
   (try clear hb)
   (try clear bu)
   (try clear hk)
   (try clear hi)
   (try clear am)
   refine hK.out _ _ (z3c D) (fun hHeld=>?_);clear hK K;refine znm (some 8) ?_;refine two_ (i:=5) (j:=7) (Ni:=some 11) (Nj:=some 3) (mB 9 63) (mB 9 159) rfl rfl rfl rfl (two_of HT_.out zad) zab zab (fun K hK=>?_) (fun K hK=>?_)
   ·skip
    refine goes_ Try.func41 zad rfl #[.slice an ah.length ao] zae rfl rfl (by(try simp only[List.map_toArray,List.map_cons,List.map_nil]);first|done|rfl|(simp only[List.length_drop,List.length_take];rfl)) ?_;with_reducible refine(slices_Clone_int_int.calls _ _ ah ac _ ?side1 ?side2 A3.out).mono ?_
    (case side1=>exact kcB bh HB)
    (case side2=>exact bg.out)
    rintro e w8 ⟨bf,rfl,am,hb⟩;refine⟨_,rfl,?_⟩;have aj:=aK (Kd.R_lower (Kd.R_new' am (Kd.R_lt (kdA X.out))) (below_size (hbA HB.out)));replace X:=aK (Kd.R_elder' (kdA X.out) (Kd.R_base am) hb);replace D:=bkB D hb;replace J:=bkB J hb;replace HB:=hbB HB hb
    (try clear hb)
    (try clear bu)
    (try clear hk)
    (try clear hi)
    (try clear am)
    obtain⟨du,d0,cu⟩:=Kd.R_slice aj.out
    (first|subst cu|(injection cu with f1_ f2_ f3_;have f4_:=f1_.symm;have f5_:=f3_.symm;clear f1_ f2_ f3_;subst f4_;subst f5_))
    obtain⟨a7,a9,az⟩:=Kd.R_slice X.out
    (first|subst az|(injection az with f1_ f2_ f3_;have f4_:=f1_.symm;have f5_:=f3_.symm;clear f1_ f2_ f3_;subst f4_;subst f5_))
    refine hK.out _ _ (z3c D) (fun hHeld=>?_);clear hK K;refine znm (some 11) ?_;refine pu 6 (some 12) (mB 9 127) HT_ ?_;refine zoh 7 (some 3) (mB 9 255) HT_ fun K hK=>?_;refine box_step ?hg (N:=3) ?hd (cs:= #[.slice none 0 0,.slice none 0 0,.slice none 0 0]) (t:=25) ?hr ?_;(case hd=>rfl);(case hg=>rfl);(case hr=>first|(go_simp;done)|(go_simp;rfl))
    intro L hg er hbox hb;replace X:=kdB X hb;replace aj:=kdB aj hb;have I:=aK (hbox);have ay:=hbS HB hg;have ax:=hbS HB hg;replace HB:=hbB HB hb;have G:=neL D hg;have U:=neG D hg;replace D:=bkB D hb;have O:=neL J hg;have Y:=neG J hg;replace J:=bkB J hb;clear hb hbox hg;refine hK.out _ _ (z3c D) (fun hHeld=>?_);clear hK K;refine znm (some 3) ?_;exact norm_ zau (hCont (.slice a7 aa.length a9,.slice du ac.length d0,L) _ ⟨hHeld,(by(with_reducible repeat(first|apply Kd.R_alloc|apply Kd.R_drewN|apply Kd.R_drew));exact Kd.R_mono X.out (fun _ hk=>hk.2)),(by(with_reducible repeat(first|apply Kd.R_alloc|apply Kd.R_drewN|apply Kd.R_drew));exact Kd.R_mono aj.out (fun _ hk=>hk.2)),(bkA D.out),(bkA J.out),(bkA I.out),ay.out,ax.out,G.out,U.out,O.out,Y.out,(hbA HB.out)⟩)
   ·skip
    refine box_step ?hg (N:=3) ?hd (cs:= #[.slice none 0 0,.slice none 0 0,.slice none 0 0]) (t:=25) ?hr ?_;(case hd=>rfl);(case hg=>rfl);(case hr=>first|(go_simp;done)|(go_simp;rfl))
    intro L hg w8 hbox hb;replace X:=kdB X hb;have I:=aK (hbox);have ay:=hbS HB hg;have ax:=hbS HB hg;replace HB:=hbB HB hb;have G:=neL D hg;have U:=neG D hg;replace D:=bkB D hb;have O:=neL J hg;have Y:=neG J hg;replace J:=bkB J hb;clear hb hbox hg;refine hK.out _ _ (z3c D) (fun hHeld=>?_);clear hK K;refine znm (some 3) ?_;refine zoh 5 (some 11) (mB 9 191) HT_ fun K hK=>?_;refine goes_ Try.func41 zad rfl #[.slice an ah.length ao] zae rfl rfl (by(try simp only[List.map_toArray,List.map_cons,List.map_nil]);first|done|rfl|(simp only[List.length_drop,List.length_take];rfl)) ?_;with_reducible refine(slices_Clone_int_int.calls _ _ ah ac _ ?side1 ?side2 A3.out).mono ?_
    (case side1=>exact kcB bh HB)
    (case side2=>exact bg.out)
    rintro e w9 ⟨bf,rfl,am,hb⟩;refine⟨_,rfl,?_⟩;have aj:=aK (Kd.R_lower (Kd.R_new' am (Kd.R_lt (kdA X.out))) (below_size (hbA HB.out)));replace X:=aK (Kd.R_elder' (kdA X.out) (Kd.R_base am) hb);replace D:=bkB D hb;replace J:=bkB J hb;replace I:=bkB I hb;replace HB:=hbB HB hb
    (try clear hb)
    (try clear bu)
    (try clear hk)
    (try clear hi)
    (try clear am)
    obtain⟨a7,a9,az⟩:=Kd.R_slice aj.out
    (first|subst az|(injection az with f1_ f2_ f3_;have f4_:=f1_.symm;have f5_:=f3_.symm;clear f1_ f2_ f3_;subst f4_;subst f5_))
    obtain⟨bm,bs,bb⟩:=Kd.R_slice X.out
    (first|subst bb|(injection bb with f1_ f2_ f3_;have f4_:=f1_.symm;have f5_:=f3_.symm;clear f1_ f2_ f3_;subst f4_;subst f5_))
    refine hK.out _ _ (z3c D) (fun hHeld=>?_);clear hK K;refine znm (some 11) ?_;refine pu 6 (some 12) (mB 9 255) HT_ ?_;exact norm_ zau (hCont (.slice bm aa.length bs,.slice a7 ac.length a9,L) _ ⟨hHeld,(by(with_reducible repeat(first|apply Kd.R_alloc|apply Kd.R_drewN|apply Kd.R_drew));exact Kd.R_mono X.out (fun _ hk=>hk.2)),(by(with_reducible repeat(first|apply Kd.R_alloc|apply Kd.R_drewN|apply Kd.R_drew));exact Kd.R_mono aj.out (fun _ hk=>hk.2)),(bkA D.out),(bkA J.out),(bkA I.out),ay.out,ax.out,G.out,U.out,O.out,Y.out,(hbA HB.out)⟩)
  ·skip
   refine box_step ?hg (N:=3) ?hd (cs:= #[.slice none 0 0,.slice none 0 0,.slice none 0 0]) (t:=25) ?hr ?_;(case hd=>rfl);(case hg=>rfl);(case hr=>first|(go_simp;done)|(go_simp;rfl))
   intro L hg w7 hbox hb;have I:=aK (hbox);have ay:=hbS HB hg;have ax:=hbS HB hg;replace HB:=hbB HB hb;have G:=neL D hg;have U:=neG D hg;replace D:=bkB D hb;have O:=neL J hg;have Y:=neG J hg;replace J:=bkB J hb;clear hb hbox hg;refine hK.out _ _ (z3c D) (fun hHeld=>?_);clear hK K;refine znm (some 3) ?_;refine zoh 2 (some 8) (mB 9 159) HT_ fun K hK=>?_;refine goes_ Try.func41 zad rfl #[.slice ap ai.length ar] zae rfl rfl (by(try simp only[List.map_toArray,List.map_cons,List.map_nil]);first|done|rfl|(simp only[List.length_drop,List.length_take];rfl)) ?_;with_reducible refine(slices_Clone_int_int.calls _ _ ai aa _ ?side1 ?side2 A2.out).mono ?_
   (case side1=>exact kcB bq HB)
   (case side2=>exact bn.out)
   rintro e w8 ⟨bk,rfl,am,hb⟩;refine⟨_,rfl,?_⟩;have X:=aK (Kd.R_lower am (below_size (hbA HB.out)));replace D:=bkB D hb;replace J:=bkB J hb;replace I:=bkB I hb;replace HB:=hbB HB hb
   (try clear hb)
   (try clear bu)
   (try clear hk)
   (try clear hi)
   (try clear am)
   refine hK.out _ _ (z3c D) (fun hHeld=>?_);clear hK K;refine znm (some 8) ?_;refine zoh 5 (some 11) (mB 9 191) HT_ fun K hK=>?_;refine goes_ Try.func41 zad rfl #[.slice an ah.length ao] zae rfl rfl (by(try simp only[List.map_toArray,List.map_cons,List.map_nil]);first|done|rfl|(simp only[List.length_drop,List.length_take];rfl)) ?_;with_reducible refine(slices_Clone_int_int.calls _ _ ah ac _ ?side1 ?side2 A3.out).mono ?_
   (case side1=>exact kcB bh HB)
   (case side2=>exact bg.out)
   rintro e w9 ⟨bf,rfl,am,hb⟩;refine⟨_,rfl,?_⟩;have aj:=aK (Kd.R_lower (Kd.R_new' am (Kd.R_lt (kdA X.out))) (below_size (hbA HB.out)));replace X:=aK (Kd.R_elder' (kdA X.out) (Kd.R_base am) hb);replace D:=bkB D hb;replace J:=bkB J hb;replace I:=bkB I hb;replace HB:=hbB HB hb
   (try clear hb)
   (try clear bu)
   (try clear hk)
   (try clear hi)
   (try clear am)
   obtain⟨a7,a9,az⟩:=Kd.R_slice aj.out
   (first|subst az|(injection az with f1_ f2_ f3_;have f4_:=f1_.symm;have f5_:=f3_.symm;clear f1_ f2_ f3_;subst f4_;subst f5_))
   obtain⟨bm,bs,bb⟩:=Kd.R_slice X.out
   (first|subst bb|(injection bb with f1_ f2_ f3_;have f4_:=f1_.symm;have f5_:=f3_.symm;clear f1_ f2_ f3_;subst f4_;subst f5_))
   refine hK.out _ _ (z3c D) (fun hHeld=>?_);clear hK K;refine znm (some 11) ?_;refine pu 6 (some 12) (mB 9 255) HT_ ?_;exact norm_ zau (hCont (.slice bm aa.length bs,.slice a7 ac.length a9,L) _ ⟨hHeld,(by(with_reducible repeat(first|apply Kd.R_alloc|apply Kd.R_drewN|apply Kd.R_drew));exact Kd.R_mono X.out (fun _ hk=>hk.2)),(by(with_reducible repeat(first|apply Kd.R_alloc|apply Kd.R_drewN|apply Kd.R_drew));exact Kd.R_mono aj.out (fun _ hk=>hk.2)),(bkA D.out),(bkA J.out),(bkA I.out),ay.out,ax.out,G.out,U.out,O.out,Y.out,(hbA HB.out)⟩)
 rintro⟨bk,bf,L⟩ a0 ⟨hS_,h0_,h1_,h2_,h3_,h4_,h5_,h6_,h7_,h8_,h9_,h10_,h11_⟩;have n0_:Aside0 (Kd.R (Kd.int .i64) 3 a0 w.heap.size (fun k_=>some k_≠(bf:Value).ownBlock) bk aa):=⟨h0_⟩
 have n1_:Aside0 (Kd.R (Kd.int .i64) 3 a0 w.heap.size (fun k_=>some k_≠(bk:Value).ownBlock) bf ac):=⟨h1_⟩
 have n2_:Aside0 (a0.heap[af]? =some (.cells #[.slice ap ai.length ar,.slice aw ab.length av,.slice an ah.length ao] 25 (0,0))):=⟨h2_⟩
 have n3_:Aside0 (a0.heap[ae]? =some (.cells #[.slice none 0 0,.slice none 0 0,.slice none 0 0] 25 (0,0))):=⟨h3_⟩
 have n4_:Aside0 (a0.heap[L]? =some (.cells #[.slice none 0 0,.slice none 0 0,.slice none 0 0] 25 (0,0))):=⟨h4_⟩
 have n5_:Aside0 (w.heap.size<=L):=⟨h5_⟩
 have n6_:Aside0 (w.heap.size<=L):=⟨h6_⟩
 have n7_:Aside0 (af≠L):=⟨h7_⟩
 have n8_:Aside0 (L≠af):=⟨h8_⟩
 have n9_:Aside0 (ae≠L):=⟨h9_⟩
 have n10_:Aside0 (L≠ae):=⟨h10_⟩
 have n11_:Aside0 (Below w.heap.size w a0):=⟨h11_⟩
 clear D;clear J;clear HB;clear h0_ h1_ h2_ h3_ h4_ h5_ h6_ h7_ h8_ h9_ h10_ h11_;have X:=n0_;have aj:=n1_;have D:=n2_;have J:=n3_;have I:=n4_;have ay:=n5_;have ax:=n6_;have G:=n7_;have U:=n8_;have O:=n9_;have Y:=n10_;have HB:=n11_;clear n0_ n1_ n2_ n3_ n4_ n5_ n6_ n7_ n8_ n9_ n10_ n11_;have hHeld:a0.cell? ⟨af,0,none⟩=some (.slice ap ai.length ar)/\a0.cell? ⟨af,1,none⟩=some (.slice aw ab.length av)/\a0.cell? ⟨af,2,none⟩=some (.slice an ah.length ao):=hS_;obtain⟨aq,au,ci⟩:=Kd.R_slice aj.out
 (first|subst ci|(injection ci with f1_ f2_ f3_;have f4_:=f1_.symm;have f5_:=f3_.symm;clear f1_ f2_ f3_;subst f4_;subst f5_))
 obtain⟨ak,al,cj⟩:=Kd.R_slice X.out
 (first|subst cj|(injection cj with f1_ f2_ f3_;have f4_:=f1_.symm;have f5_:=f3_.symm;clear f1_ f2_ f3_;subst f4_;subst f5_))
 refine znq ?_;refine zoh 8 (none) (mB 9 511) HT_ fun K hK=>?_;have eh:a0.cell? ⟨L,0,none⟩=some (.slice none 0 0):=(blk_cell I.out 0).trans rfl;have d1:=blk_frozen I.out 0;have dj:=G.out;have dk:=O.out;have db:=U.out;have dc:=Y.out;have ei:a0.cell? ⟨L,1,none⟩=some (.slice none 0 0):=(blk_cell I.out 1).trans rfl;have d2:=blk_frozen I.out 1;have dl:=G.out;have dm:=O.out;have dd:=U.out;have de:=Y.out;have ej:a0.cell? ⟨L,2,none⟩=some (.slice none 0 0):=(blk_cell I.out 2).trans rfl;have d3:=blk_frozen I.out 2;have dn:=G.out;have dp:=O.out;have df:=U.out;have dg:=Y.out;refine zsk ?_;refine hK.out _ _ ⟨((cell_far (p:=⟨L,_,none⟩) G.out _).trans (((cell_far (p:=⟨L,_,none⟩) G.out _).trans (((cell_far (p:=⟨L,_,none⟩) G.out _).trans (hHeld.1)))))),((cell_far (p:=⟨L,_,none⟩) G.out _).trans (((cell_far (p:=⟨L,_,none⟩) G.out _).trans (((cell_far (p:=⟨L,_,none⟩) G.out _).trans (hHeld.2.1)))))),((cell_far (p:=⟨L,_,none⟩) G.out _).trans (((cell_far (p:=⟨L,_,none⟩) G.out _).trans (((cell_far (p:=⟨L,_,none⟩) G.out _).trans (hHeld.2.2))))))⟩ (fun hHeld=>?_);clear hK K;refine done_ (done_of HT_.out zad) ?_;have d5:=a1.out;have ea:=a2.out;have d6:=G.out;have eb:=U.out;obtain⟨bz,b0,b1,b2,b3,b4⟩:=cell3 D
 try go_wp2
 go_loopg [16] k (fun kq ef w'=> ∃(ag:Int) (Z:List (List (S61))) (u216001:Value),ef= .int .i64 ag/\Aside0 (share_copied.l0 kq ab (ab.length:Int) ag aa Z ac=some (r1,r2,r3))/\Aside0 (kq<=k)/\Aside0 (Kd.R (Kd.int .i64) 3 w' w.heap.size (fun k_=>some k_≠((.slice aq ac.length au):Value).ownBlock) (.slice ak aa.length al) aa)/\Aside0 (Kd.S (Kd.slice 61 k61) 59 w' w.heap.size (fun _=>True) u216001 Z)/\Aside0 (Kd.R (Kd.int .i64) 3 w' w.heap.size (fun k_=>some k_≠((.slice ak aa.length al):Value).ownBlock) (.slice aq ac.length au) ac)/\Aside0 (w'.heap[af]? =some (.cells #[(.slice ap ai.length ar),(.slice aw ab.length av),(.slice an ah.length ao)] 25 (0,0)))/\Aside0 (w'.heap[ae]? =some (.cells #[(.slice none 0 0),(.slice none 0 0),(.slice none 0 0)] 25 (0,0)))/\Aside0 (w'.heap[L]? =some (.cells #[(.slice ak aa.length al),u216001,(.slice aq ac.length au)] 25 (0,0)))/\Aside0 (Below w.heap.size w w'))
 case atStart=>exact⟨(0),(([]:List (List (S61)))),(.slice none 0 0),rsE,H',⟨Nat.le_refl _⟩,⟨by(with_reducible repeat(first|apply Kd.R_alloc|apply Kd.R_drewN|apply Kd.R_drew));exact Kd.R_mono (Kd.R_far (p:=⟨L,2,none⟩) (Kd.R_far (p:=⟨L,1,none⟩) (Kd.R_far (p:=⟨L,0,none⟩) (Kd.R_types X.out I.out zab) (fun _ hk=>hk.2) (.slice ak aa.length al)) (fun _ hk=>hk.2) (.slice none 0 0)) (fun _ hk=>hk.2) (.slice aq ac.length au)) (fun _ hk=>hk.1)⟩,⟨by first|exact Kd.S_nil _ _ _ _ _|exact Kd.N_nil _ _ _ _ _|exact Kd.V_nil _ _ _ _ _|exact Kd.Q_nil _ _ _ _ _|exact Kd.R_nil _ _ _ _ _⟩,⟨by(with_reducible repeat(first|apply Kd.R_alloc|apply Kd.R_drewN|apply Kd.R_drew));exact Kd.R_mono (Kd.R_far (p:=⟨L,2,none⟩) (Kd.R_far (p:=⟨L,1,none⟩) (Kd.R_far (p:=⟨L,0,none⟩) (Kd.R_types aj.out I.out zab) (fun _ hk=>hk.2) (.slice ak aa.length al)) (fun _ hk=>hk.2) (.slice none 0 0)) (fun _ hk=>hk.2) (.slice aq ac.length au)) (fun _ hk=>hk.1)⟩,⟨by refine bkR ?_;refine blk_far ?_ G.out _;refine bkR ?_;refine blk_far ?_ G.out _;refine bkR ?_;refine blk_far ?_ G.out _;refine bkR ?_;exact D.out⟩,⟨by refine bkR ?_;refine blk_far ?_ O.out _;refine bkR ?_;refine blk_far ?_ O.out _;refine bkR ?_;refine blk_far ?_ O.out _;refine bkR ?_;exact J.out⟩,⟨by refine bkR ?_;refine blk_put (cs:= #[.slice ak aa.length al,.slice none 0 0,.slice none 0 0]) ?_ 2 _ rfl;refine bkR ?_;refine blk_put (cs:= #[.slice ak aa.length al,.slice none 0 0,.slice none 0 0]) ?_ 1 _ rfl;refine bkR ?_;refine blk_put (cs:= #[.slice none 0 0,.slice none 0 0,.slice none 0 0]) ?_ 0 _ rfl;refine bkR ?_;exact I.out⟩,⟨hbA HB.out⟩⟩
 case round=>
  clear H'
  (try clear c1);(try clear p2);(try clear c3);(try clear c4);(try clear eo);(try clear ep);(try clear bz b0 b1 b2 b3 b4)
  obtain⟨ag,Z,u216001,rfl,HA,cq,HO_216000,HO_216001,HO_216002,D,J,I,HB⟩:=hrel
  cases gk with
  |zero=>exact absurd HA.out (by simp[share_copied.l0])
  |succ k1=>
   have H:=HA.out;clear HA;simp only[share_copied.l0]at H;by_cases bl:ag<(ab.length:Int)
   case neg=>
    rw[if_neg bl]at H
    have c21b0:decide (ag<(ab.length:Int))=false:=decide_eq_false bl;clear bl;obtain⟨rfl,rfl,rfl⟩:=zP3 H;have d7:=U.out;have ec:=G.out;have d8:=Y.out;have ed:=O.out;obtain⟨cv,cw,cx,c5,c6,c7⟩:=cell3 I;have d9:=a2.out;have ee:=a1.out;obtain⟨cy,cz,c2,c8,c9,da⟩:=cell3 J;obtain⟨a8,ba,ct⟩:=Kd.S_slice HO_216001.out;subst ct;go_wp2;refine bodyPost_ret (results_cell_row rfl _ _ ae 25 #[.slice ak aa.length al,.slice a8 Z.length ba,.slice aq ac.length au] (0,0) _ rfl (by refine bkR ?_;refine blk_put (cs:= #[.slice ak aa.length al,.slice a8 Z.length ba,.slice none 0 0]) ?_ 2 _ rfl;refine bkR ?_;refine blk_put (cs:= #[.slice ak aa.length al,.slice none 0 0,.slice none 0 0]) ?_ 1 _ rfl;refine bkR ?_;refine blk_put (cs:= #[.slice none 0 0,.slice none 0 0,.slice none 0 0]) ?_ 0 _ rfl;refine bkR ?_;exact J.out) Try.underlying25 rfl zad) rfl ?_;exact⟨_,_,_,rfE,by(with_reducible repeat(first|apply Kd.R_alloc|apply Kd.R_drewN|apply Kd.R_drew));exact Kd.R_mono (Kd.R_far (p:=⟨ae,2,none⟩) (Kd.R_far (p:=⟨ae,1,none⟩) (Kd.R_far (p:=⟨ae,0,none⟩) (Kd.R_types HO_216000.out J.out zab) (fun _ hk=>hk.2) (.slice ak aa.length al)) (fun _ hk=>hk.2) (.slice a8 Z.length ba)) (fun _ hk=>hk.2) (.slice aq ac.length au)) (fun _ hk=>hk.1),by(with_reducible repeat(first|apply Kd.S_alloc|apply Kd.S_drewN|apply Kd.S_drew));exact Kd.S_mono (Kd.S_far (p:=⟨ae,2,none⟩) (Kd.S_far (p:=⟨ae,1,none⟩) (Kd.S_far (p:=⟨ae,0,none⟩) (Kd.S_types HO_216001.out J.out zab) (fun _ hk=>hk.2) (.slice ak aa.length al)) (fun _ hk=>hk.2) (.slice a8 Z.length ba)) (fun _ hk=>hk.2) (.slice aq ac.length au)) (fun _ hk=>trivial),by(with_reducible repeat(first|apply Kd.R_alloc|apply Kd.R_drewN|apply Kd.R_drew));exact Kd.R_mono (Kd.R_far (p:=⟨ae,2,none⟩) (Kd.R_far (p:=⟨ae,1,none⟩) (Kd.R_far (p:=⟨ae,0,none⟩) (Kd.R_types HO_216002.out J.out zab) (fun _ hk=>hk.2) (.slice ak aa.length al)) (fun _ hk=>hk.2) (.slice a8 Z.length ba)) (fun _ hk=>hk.2) (.slice aq ac.length au)) (fun _ hk=>hk.1),hbA HB.out⟩
   rw[if_pos bl]at H
   have c21b0:decide (ag<(ab.length:Int))=true:=decide_eq_true bl;clear bl;by_cases cd:0<=ag
   case neg=>rw[if_neg cd]at H;exact absurd H zac
   rw[if_pos cd]at H
   have c22b0:decide (0<=ag)=true:=decide_eq_true cd;clear cd;by_cases ce:ag<(ab.length:Int)
   case neg=>rw[if_neg ce]at H;exact absurd H zac
   rw[if_pos ce]at H
   have c23b0:decide (ag<(ab.length:Int))=true:=decide_eq_true ce;clear ce;obtain⟨be,dt,H⟩:=bindO H
   (try dsimp only at H)
   by_cases cf:Z.length<5864062014805
   case neg=>rw[if_neg cf]at H;exact absurd H zac
   rw[if_pos cf]at H
   have cn:=aK cf;clear cf;obtain⟨a5,a4⟩: ∃y_:List (List (S61)),y_=(Z++ [be]):=⟨_,rfl⟩
   replace H:(share_copied.l0 k1 ab (ab.length:Int) (wrap64 (ag+1)) aa a5 ac)=some (r1,r2,r3):=zH a4 H
   have co:=aK a4;clear a4;have H':=aK H;clear H;have b8:0<=(ag:Int):=of_decide_eq_true asE;have b9:ag<(ab.length:Int):=of_decide_eq_true asE;obtain⟨cp,ca,cb,cr,a3,bd,bc⟩:=at_L5 cm.out ag b8 b9
   cases cr
   replace a3:=(HB.out.cell (World.block_lt_of_cell? w _ a3)).trans a3;have br:=aK bc;have bo:=aK bd;clear bc bd;replace b8:=eq_true b8;replace b9:=eq_true b9
   try go_wp2
   replace HO_216000:=aK (Kd.R_drew HO_216000.out);replace HO_216001:=aK (Kd.S_drew HO_216001.out);replace HO_216002:=aK (Kd.R_drew HO_216002.out);replace D:=aK (blk_drew D.out);replace J:=aK (blk_drew J.out);replace I:=aK (blk_drew I.out);replace HB:=aK (below_drew1 HB.out);refine start_ (n:=8) (S:=fun w'=>w'.cell? ⟨L,0,none⟩=some (.slice ak aa.length al)/\w'.cell? ⟨L,1,none⟩=some (u216001)/\w'.cell? ⟨L,2,none⟩=some (.slice aq ac.length au)) (ds:= [7]) (.replicate 8 false) zad rfl rfl (z3c I) (fun hHeld=>?_);refine with_tabW share_copied.tab5 share_copied.bits5 (fun HT_ HW_=>?_);generalize wr.drew=es at HO_216000 HO_216001 HO_216002 D J I HB hHeld⊢;refine pu 0 (some 20) (mB 8 1) HT_ ?_;refine pu 2 (some 22) (mB 8 5) HT_ ?_;refine tk3 1 (some 21) (mB 8 7) HT_ HW_ hHeld ?_;refine zoh 3 (some 23) (mB 8 15) HT_ fun K hK=>?_;refine goes_ Try.func42 zad rfl #[.slice ca (rd_L5 ab ag).length cb] zae rfl rfl (by(try simp only[List.map_toArray,List.map_cons,List.map_nil]);first|done|rfl|(simp only[List.length_drop,List.length_take];rfl)) ?_;with_reducible refine(api_Term_42.calls _ _ (rd_L5 ab ag) be _ ?side1 ?side2 dt.out).mono ?_
   (case side1=>exact kcB br HB)
   (case side2=>exact bo.out)
   rintro e et ⟨em,rfl,am,hb⟩;refine⟨_,rfl,?_⟩;replace HO_216000:=kdB HO_216000 hb;replace HO_216001:=aK (Kd.S_elder' (by(with_reducible repeat(first|apply Kd.S_alloc|apply Kd.S_drewN|apply Kd.S_drew));exact HO_216001.out) (Kd.R_base am) hb);replace HO_216002:=kdB HO_216002 hb;have a6:=aK (Kd.R_lower am (below_size (hbA HB.out)));replace D:=bkB D hb;replace J:=bkB J hb;replace I:=bkB I hb;replace HB:=hbB HB hb
   (try clear hb)
   (try clear bu)
   (try clear hk)
   (try clear hi)
   (try clear am)
   obtain⟨cg,ch,ck⟩:=Kd.R_slice a6.out
   (first|subst ck|(injection ck with f1_ f2_ f3_;have f4_:=f1_.symm;have f5_:=f3_.symm;clear f1_ f2_ f3_;subst f4_;subst f5_))
   refine hK.out _ _ (z3c I) (fun hHeld=>?_);clear hK K;refine znm (some 23) ?_;refine zoh 4 (some 24) (mB 8 31) HT_ fun K hK=>?_;refine value_ (w1:=?_) (v:=?_) zae rfl ?_ ?_;rotate_left 2
   ·go_simp;constructor
    ·rfl
    ·rfl
   refine hK.out _ _ ⟨(blk_cell (blk_alloc I.out _) 0).trans rfl,(blk_cell (blk_alloc I.out _) 1).trans rfl,(blk_cell (blk_alloc I.out _) 2).trans rfl⟩ (fun hHeld=>?_);clear hK K;refine znm (some 24) ?_;refine zoh 5 (some 25) (mB 8 63) HT_ fun K hK=>?_;refine Kd.S_append_step (Kd.slice 61 k61) (w0:=w) w.heap.size zae (.tmp 21) (.tmp 24) 23 59 (.slice none 0 0) 24 rfl Try.underlying23 info59 rfl zab zaa u216001 Z be [.slice cg be.length ch] (fun _=>True) (fun k_=>some k_=(.slice cg be.length ch:Value).ownBlock) rfl rfl ?aP (fun k_ hk_=>((Kd.R_mono (ok':=fun k_=>((fun _=>True)) k_/\some k_≠(u216001:Value).ownBlock) (Kd.R_apart' (a6.out) (Kd.S_typed HO_216001.out) zab) (fun k_ hk=>⟨trivial,hk.2⟩))).1 k_ hk_.symm) ?aF ?aO ?aB ?aS ?aL ?_
   (case aP=>exact Kd.M_row (Kd.R_mono (Kd.R_tight rfl (Kd.R_mono (ok':=fun k_=>((fun _=>True)) k_/\some k_≠(u216001:Value).ownBlock) (Kd.R_apart' (a6.out) (Kd.S_typed HO_216001.out) zab) (fun k_ hk=>⟨trivial,hk.2⟩))) (fun _ h_=>h_)))
   (case aB=>exact(hbA HB.out))
   (case aF=>exact(fun _ _=>trivial))
   (case aO=>exact(by(with_reducible repeat(first|apply Kd.S_alloc|apply Kd.S_drewN|apply Kd.S_drew));exact Kd.S_mono HO_216001.out (fun k_ hk=>⟨trivial,fun e_=>hk.2 e_⟩)))
   (case aS=>exact(below_size (hbA HB.out)))
   (case aL=>have:=cn.out;omega)
   intro en eg ho hb hg hat;rw[<-co.out]at ho
   have n0_:=aK (Kd.R_over' (kdA HO_216000.out) (Kd.S_typed (by(with_reducible repeat(first|apply Kd.S_alloc|apply Kd.S_drewN|apply Kd.S_drew));exact HO_216001.out)) zab hg);have n1_:=aK (Kd.R_over' (kdA HO_216002.out) (Kd.S_typed (by(with_reducible repeat(first|apply Kd.S_alloc|apply Kd.S_drewN|apply Kd.S_drew));exact HO_216001.out)) zab hg);have n2_:=aK (blk_grown (g:=af) (o:= .cells #[.slice ap ai.length ar,.slice (some cp) ab.length av,.slice an ah.length ao] 25 (0,0)) (bkA D.out) hg (Kd.S_ne HO_216001.out D.out zab));have n3_:=aK (blk_grown (g:=ae) (o:= .cells #[.slice none 0 0,.slice none 0 0,.slice none 0 0] 25 (0,0)) (bkA J.out) hg (Kd.S_ne HO_216001.out J.out zab));have n4_:=aK (blk_grown (g:=L) (o:= .cells #[.slice ak aa.length al,u216001,.slice aq ac.length au] 25 (0,0)) (bkA I.out) hg (Kd.S_ne HO_216001.out I.out zab));have n5_:=aK (hb);have n6_:=aK (ho);clear HO_216000;clear HO_216002;clear D;clear J;clear I;clear HB;clear HO_216001;clear a6;have HO_216000:=n0_;have HO_216002:=n1_;have D:=n2_;have J:=n3_;have I:=n4_;have HB:=n5_;have bp:=n6_;clear n0_ n1_ n2_ n3_ n4_ n5_ n6_;clear ho hb hg hat;obtain⟨bi,bj,cl⟩:=Kd.S_slice bp.out
   (first|subst cl|(injection cl with f1_ f2_ f3_;have f4_:=f1_.symm;have f5_:=f3_.symm;clear f1_ f2_ f3_;subst f4_;subst f5_))
   refine hK.out _ _ (z3c I) (fun hHeld=>?_);clear hK K;refine znm (some 25) ?_;refine pu 6 (some 26) (mB 8 127) HT_ ?_;refine zlh 7 (none) (mB 8 255) HT_ fun K hK=>?_;have ek:eg.cell? ⟨L,1,none⟩=some (u216001):=(blk_cell I.out 1).trans rfl;have d4:=blk_frozen I.out 1;have dq:=G.out;have dr:=O.out;have dh:=U.out;have di:=Y.out;refine zsk ?_;refine hK.out _ _ ?_;clear hK K;refine done_ (done_of HT_.out zad) ?_
   try go_wp2
   go_roundg k1
   case measure=>have:=cq.out;omega
   case rel=>exact⟨(wrap64 (ag+1)),(a5),(.slice bi a5.length bj),rsE,H',⟨by have:=cq.out;omega⟩,⟨by(with_reducible repeat(first|apply Kd.R_alloc|apply Kd.R_drewN|apply Kd.R_drew));exact Kd.R_mono (Kd.R_far (p:=⟨L,1,none⟩) (Kd.R_types HO_216000.out I.out zab) (fun _ hk=>hk.2) (.slice bi a5.length bj)) (fun _ hk=>hk.1)⟩,⟨by(with_reducible repeat(first|apply Kd.S_alloc|apply Kd.S_drewN|apply Kd.S_drew));exact Kd.S_mono (Kd.S_far (p:=⟨L,1,none⟩) (Kd.S_types bp.out I.out zab) (fun _ hk=>hk.2) (.slice bi a5.length bj)) (fun _ hk=>trivial)⟩,⟨by(with_reducible repeat(first|apply Kd.R_alloc|apply Kd.R_drewN|apply Kd.R_drew));exact Kd.R_mono (Kd.R_far (p:=⟨L,1,none⟩) (Kd.R_types HO_216002.out I.out zab) (fun _ hk=>hk.2) (.slice bi a5.length bj)) (fun _ hk=>hk.1)⟩,⟨by refine bkR ?_;refine blk_far ?_ G.out _;refine bkR ?_;exact D.out⟩,⟨by refine bkR ?_;refine blk_far ?_ O.out _;refine bkR ?_;exact J.out⟩,⟨by refine bkR ?_;refine blk_put (cs:= #[.slice ak aa.length al,u216001,.slice aq ac.length au]) ?_ 1 _ rfl;refine bkR ?_;exact I.out⟩,⟨hbA HB.out⟩⟩
def idxT(p:S61->Bool):List S61->Int->Int
 | [],_=> -1
 |x::r,i=>if p x=true then i else idxT p r (i+1)
theorem info61z: ∃i,Try.prog.info? 61=some i/\i.size=2:=by
 have h:=info61
 cases e:Try.prog.info? 61 with
 |none=>rw[e]at h;cases h
 |some i=>
  rw[e]at h
  refine⟨i,rfl,?_⟩;simp only[Option.map_some,Option.some.injEq,Prod.mk.injEq]at h;exact h.2.1
theorem idxT.calls(l:List S61)(A:Option Addr)(c:Nat)(p:S61->Bool)(tf:Nat)(caps:Array Value)(w:World)(hr:Kd.C k61 w A l.length l)(hlen:l.length<=140737488355328)
 (het: ∀args W,(callFunc tf args).run Try.prog W= .ok (.enter tf args) W)
 (hp: ∀x∈l,∀W,Below w.heap.size w W->Calls Try.prog tf (#[.agg #[.int .i64 x.f0,.int .u8 x.f1]]++caps) W fun e W'=>e= .returned (.bool (p x))/\Below W.heap.size W W'):
 Calls Try.prog 45 #[.slice A l.length c,.func (.func tf) #[] caps] w fun e w'=>e= .returned (.int .i64 (idxT p l 0))/\Below w.heap.size w w':=by
 have J:=Try.underlying61;have HC:=aK hr;have HP:=aK hp;clear hr hp;obtain⟨len,hl⟩: ∃n,n=l.length:=⟨_,rfl⟩
 rw[<-hl]at hlen⊢
 have HL:=aK hl;clear hl
 go_enter Try.func45,Try.ntmps45
 go_wp2
 go_loopw [8] (fun v wr=> ∃i:Nat,i<=len/\v= .int .i64 i/\Aside0 (idxT p (l.drop i) i=idxT p l 0)/\Aside0 (Below w.heap.size w wr)) (fun v _=>len-(intOf v).toNat)
 case atStart=>exact⟨0,by omega,rfl,⟨rfl⟩,⟨Below.refl _ _⟩⟩
 case round=>
  obtain⟨i,hi,rfl,HI,HB⟩:=hrel;by_cases hlt:i<len
  ·obtain⟨ad,eA,G,I⟩:=at_T61 HC.out (i:Int) zaa zbg;subst eA;replace G:=pw_cell_below HB.out G;replace I:=pw_cell_below HB.out I;have hil:i<l.length:=by have:=HL.out;omega
   have hx:rd_T61 l (i:Int)=l[i]:=by simp[rd_T61,List.getD_eq_getElem?_getD,hil]
   rw[hx,Int.toNat_natCast]at G I
   have HM:=aK (List.getElem_mem hil);have D:=aK (show(if p l[i] =true then(i:Int)else idxT p (l.drop (i+1)) ((i:Int)+1))=idxT p l 0 by
    have:=HI.out;rw[List.drop_eq_getElem_cons hil]at this
    exact this)
   obtain⟨x,ex⟩: ∃x:S61,x=l[i]:=⟨_,rfl⟩
   rw[<-ex]at G I HM D
   clear ex hx HI hil;have HCall:=aK (fun W hW=>HP.out x HM.out W hW)
   cases hpx:p x
   ·rw[hpx]at HCall D
    go_wp2;refine(HCall.out _ HB.out).mono ?_;rintro e w' ⟨rfl,hb⟩;replace HB:=aK (HB.out.trans (hb.mono HB.out.size));go_wp2
    go_roundw
    case rel=>
     refine⟨i+1,by omega,by go_num,⟨?_⟩,HB⟩;have:=D.out;rw[if_neg zac]at this
     simpa using this
    case measure=>
     simp[intOf];omega
   ·rw[hpx]at HCall D
    go_wp2;refine(HCall.out _ HB.out).mono ?_;rintro e w' ⟨rfl,hb⟩;replace HB:=aK (HB.out.trans (hb.mono HB.out.size));go_wp2
    go_ret
    have:=D.out;rw[if_pos trivial]at this
    exact⟨by rw[<-this];rfl,HB.out⟩
  ·go_wp2
   go_ret
   have:=HI.out;rw[List.drop_eq_nil_of_le zbg]at this
   exact⟨by rw[<-this];rfl,HB.out⟩
theorem share_taken1.calls(x:S61)(g:Nat)(own:Int)(w:World)(hb:w.heap[g]? =some (.cells #[.int .i64 own] 3 (0,0))):
 Calls Try.prog 46 #[.agg #[.int .i64 x.f0,.int .u8 x.f1],.pointer (some ⟨g,0,none⟩)] w fun e w'=>e= .returned (.bool (decide (own<x.f0)))/\Below w.heap.size w w':=by
 have hu:=Try.underlying61;have hcz:=(blk_cell hb 0).trans rfl;have hlt:g<w.heap.size:=(Array.getElem?_eq_some_iff.1 hb).1
 go_enter Try.func46,Try.ntmps46
 go_wp2
 go_ret
 exact⟨rfl,below_alloc (Below.refl _ _) _⟩
theorem share_without1.calls(x:S61)(g:Nat)(a b c d:Int)(w:World)(hb:w.heap[g]? =some (.cells #[.int .i64 a,.int .i64 b,.int .u8 c,.int .i64 d] 27 (0,0))):
 Calls Try.prog 53 #[.agg #[.int .i64 x.f0,.int .u8 x.f1],.pointer (some ⟨g,0,none⟩)] w fun e w'=>e= .returned (.bool (x.f0==a))/\Below w.heap.size w w':=by
 have hu:=Try.underlying61;have D:=Try.underlying27;have hcz:=(blk_cell hb 0).trans rfl;have hlt:g<w.heap.size:=(Array.getElem?_eq_some_iff.1 hb).1
 go_enter Try.func53,Try.ntmps53
 go_wp2
 go_ret
 exact⟨rfl,below_alloc (Below.refl _ _) _⟩
theorem share_without2.calls(x:S61)(g:Nat)(a b c d:Int)(w:World)(hb:w.heap[g]? =some (.cells #[.int .i64 a,.int .i64 b,.int .u8 c,.int .i64 d] 27 (0,0))):
 Calls Try.prog 54 #[.agg #[.int .i64 x.f0,.int .u8 x.f1],.pointer (some ⟨g,0,none⟩)] w fun e w'=>e= .returned (.bool (x.f0==b))/\Below w.heap.size w w':=by
 have hu:=Try.underlying61;have D:=Try.underlying27;have hcz:=(blk_cell hb 1).trans rfl;have hlt:g<w.heap.size:=(Array.getElem?_eq_some_iff.1 hb).1
 go_enter Try.func54,Try.ntmps54
 go_wp2
 go_ret
 exact⟨rfl,below_alloc (Below.refl _ _) _⟩
def api_Term_45.f(l:List S61)(own:Int):Option Int:=if l.length<=140737488355328 then some (idxT (fun t=>decide (own<t.f0)) l 0)else none
theorem api_Term_45.calls(g:Nat)(A:Option Addr)(c:Nat)(l:List S61)(own:Int)(r:Int)(w:World)(hb:w.heap[g]? =some (.cells #[.int .i64 own] 3 (0,0)))(hr:Kd.C k61 w A l.length l)(hc:l.length<=c)(h:api_Term_45.f l own=some r):
 Calls Try.prog 45 #[.slice A l.length c,.func (.func 46) #[] #[.pointer (some ⟨g,0,none⟩)]] w fun e w'=>e= .returned (.int .i64 r)/\Below w.heap.size w w':=by
 unfold api_Term_45.f at h;by_cases hl:l.length<=140737488355328
 ·rw[if_pos hl]at h
  obtain rfl:=Option.some.inj h;have hlt:g<w.heap.size:=(Array.getElem?_eq_some_iff.1 hb).1
  exact idxT.calls l A c (fun t=>decide (own<t.f0)) 46 #[.pointer (some ⟨g,0,none⟩)] w hr hl (enters_of Try.func46 zad rfl)
   (fun x _ W hW=>share_taken1.calls x g own W ((hW.block _ hlt).trans hb))
 ·rw[if_neg hl]at h
  cases h
theorem slices_Grow.calls(n:Nat)(w:World)(hn:n<=1000000000):
 Calls Try.prog 60 #[.slice none 0 0,.int .i64 (n:Int)] w fun e w'=> ∃v,e= .returned v/\Aside0 (Kd.R k61 61 w' w.heap.size (fun _=>True) v [])/\Below w.heap.size w w':=by
 obtain⟨I,D,G⟩:=Option.map_eq_some_iff.1 info61;simp only[Prod.mk.injEq]at G;obtain⟨hz,hsz,hby⟩:=G;have O:wrap64 ((n:Int)-0)=n:=by rw[bwrap_small zaa zaa];omega
 have U:wrap64 (n:Int)=n:=bwrap_small zaa zaa;have X:wrap64 0=0:=bwrap_small zaa zaa;by_cases h0:0<n
 ·have hap:=Lib.run_append_nil_zeros w 59 3 59 61 I (.agg #[.int .i64 0,.int .u8 0]) .i64 .i64 Try.underlying59 Try.underlying3 D hz n h0 (by rw[hsz];decide) zaa (by rw[hby];omega);have hge:=grownCap_ge w n 0 61;have hcm:grownCap w n 0 61<=maxLen:=grownCap_le_maxLen w n 0 _ (by unfold maxLen;omega);generalize grownCap w n 0 61=cap at hap hge hcm;have hb:Below w.heap.size w (w.drew.alloc (.cells (Builtin.zeroCells (Value.agg #[.int .i64 0,.int .u8 0]).cells n++Builtin.zeroCells (Value.agg #[.int .i64 0,.int .u8 0]).cells (cap-n)) 61)):=below_alloc (below_drew (Below.refl _ _)) _;have ho:Kd.R k61 61 (w.drew.alloc (.cells (Builtin.zeroCells (Value.agg #[.int .i64 0,.int .u8 0]).cells n++Builtin.zeroCells (Value.agg #[.int .i64 0,.int .u8 0]).cells (cap-n)) 61)) w.heap.size (fun _=>True) (.slice (some ⟨w.heap.size,0,none⟩) 0 cap) []:=
   ⟨fun _ _=>trivial,[],World.ownsRow_made w.drew _ cap (Nat.le_refl _) hcm (by
    rw[Array.size_append,size_zeroCells,size_zeroCells];show n*2+(cap-n)*2=cap*2;omega),Reps.none _ _⟩
  have HB:=aK hb;have HO:=aK ho;clear hb ho;generalize w.drew.alloc (.cells (Builtin.zeroCells (Value.agg #[.int .i64 0,.int .u8 0]).cells n++Builtin.zeroCells (Value.agg #[.int .i64 0,.int .u8 0]).cells (cap-n)) 61)=wz at*;have J:=cut_to (P:=Try.prog) 59 61 .i64 Try.underlying59 D none 0 0 0 (Int.le_refl 0) (Int.le_refl 0) (Nat.le_refl 0);have L:=cut_to (P:=Try.prog) 59 61 .i64 Try.underlying59 D (some ⟨w.heap.size,0,none⟩) n cap 0 (Int.le_refl 0) zaa hge;clear D hz hsz hby
  go_enter Try.func60,Try.ntmps60
  go_wp2_with (at_builtin;refine Lib.wpList_append_run _ rfl (.tmp 20) (.tmp 21) 59 3 rfl _ _ rfl rfl _ _ hap ?_)
  go_ret
  exact⟨_,rfl,HO,HB.out⟩
 ·obtain rfl:n=0:=by omega
  go_enter Try.func60,Try.ntmps60
  go_wp2
  go_ret
  exact⟨_,rfl,⟨Kd.R_nil _ _ _ _ _⟩,Below.refl _ _⟩
theorem flat_step{L:List (List S61)}{i:Nat}(h:i<L.length):(L.take (i+1)).flatten=(L.take i).flatten++rd_L5 L (i:Int):=by
 have e:rd_L5 L (i:Int)=L[i]:=by simp[rd_L5,List.getD_eq_getElem?_getD,h]
 rw[e,List.take_succ_eq_append_getElem h,List.flatten_append];simp
theorem flat_le{L:List (List S61)}(i:Nat):(L.take i).flatten.length<=L.flatten.length:=by
 have h:L.flatten=(L.take i).flatten++(L.drop i).flatten:=by rw[<-List.flatten_append,List.take_append_drop]
 rw[h,List.length_append];omega
theorem slices_Concat.calls(A:Option Addr)(c:Nat)(L:List (List S61))(w:World)(hr:Kd.C (Kd.slice 61 k61) w A L.length L)(hn:L.length<=1000)(hs:L.flatten.length<=1000000000):
 Calls Try.prog 55 #[.slice A L.length c] w fun e w'=> ∃v,e= .returned v/\Aside0 (Kd.R k61 61 w' w.heap.size (fun _=>True) v L.flatten)/\Below w.heap.size w w':=by
 have HR:=aK hr;have HS:=aK hs;clear hr hs;have HB:=aK (Below.refl w.heap.size w)
 go_enter Try.func55,Try.ntmps55
 go_wp2
 go_loopw [3,11] (fun v3 G wr=> ∃(i m:Nat),i<=L.length/\v3= .int .i64 m/\G= .int .i64 i/\Aside0 ((L.take i).flatten.length=m)/\Aside0 (Below w.heap.size w wr)) (fun _ v _=>L.length-(intOf v).toNat)
 case atStart=>exact⟨0,0,by omega,rfl,rfl,⟨by simp⟩,HB⟩
 case round=>
  clear HB;obtain⟨i,m,hi,rfl,rfl,HM,HB⟩:=hrel;by_cases hlt:i<L.length
  ·obtain⟨ad,Al,cl,eA,hx,hlc,hC⟩:=at_L5 HR.out (i:Int) zaa zaa;subst eA;replace hx:=(HB.out.cell (World.block_lt_of_cell? w _ hx)).trans hx;rw[Int.toNat_natCast]at hx
   have HF:=aK (flat_step hlt);obtain⟨nl,hnl⟩: ∃x,x=(rd_L5 L (i:Int)).length:=⟨_,rfl⟩
   rw[<-hnl]at hx hlc
   have D:=aK (show(L.take (i+1)).flatten.length=m+nl by rw[HF.out,List.length_append,HM.out,hnl]);have hm:m+nl<=1000000000:=by
    have h1:=flat_le (L:=L) (i+1);rw[D.out]at h1
    have:=HS.out;omega
   clear hC HF hnl HM;have hw:wrap64 ((m:Int)+(nl:Int))=((m+nl:Nat):Int):=by rw[bwrap_small zaa zaa];omega
   have J:decide (((m+nl:Nat):Int)<0)=false:=decide_eq_false zaa;go_wp2
   go_roundw
   case rel=>exact⟨i+1,m+nl,by omega,by first|rfl|rw[hw],by go_num,D,HB⟩
   case measure=>simp[intOf];omega
  ·obtain rfl:i=L.length:=by omega
   have hm:m<=1000000000:=by
    have h1:=HM.out;rw[List.take_length]at h1
    have:=HS.out;omega
   clear HM
   go_wp2_with (go_at_call 60;refine(slices_Grow.calls m _ hm).mono ?_;rintro e w2 ⟨v,rfl,HO,hb⟩;replace HO:=aK (Kd.R_lower HO.out (show w.heap.size<=_ from HB.out.size));replace HB:=hbB HB hb)
   go_loopw [6,27] (fun v6 I wr=> ∃i:Nat,i<=L.length/\I= .int .i64 i/\Aside0 (Kd.R k61 61 wr w.heap.size (fun _=>True) v6 (L.take i).flatten)/\Aside0 (Below w.heap.size w wr)) (fun _ v _=>L.length-(intOf v).toNat)
   case atStart=>exact⟨0,by omega,rfl,⟨by simpa using HO.out⟩,HB⟩
   case round=>
    clear HO HB;obtain⟨i,hi,rfl,HO,HB⟩:=hrel;by_cases hlt:i<L.length
    ·obtain⟨ad,Al,cl,eA,hx,hlc,hC⟩:=at_L5 HR.out (i:Int) zaa zaa;subst eA;replace hx:=(HB.out.cell (World.block_lt_of_cell? w _ hx)).trans hx;rw[Int.toNat_natCast]at hx
     have HF:=aK (flat_step hlt);have HC:=aK hC;obtain⟨row,hrow⟩: ∃x,x=rd_L5 L (i:Int):=⟨_,rfl⟩
     rw[<-hrow]at hx hlc HF HC
     have hm:(L.take i).flatten.length+row.length<=1000000000:=by
      have h1:=flat_le (L:=L) (i+1);rw[HF.out,List.length_append]at h1
      have:=HS.out;omega
     obtain⟨X,hX⟩: ∃x,x=(L.take i).flatten:=⟨_,rfl⟩
     rw[<-hX]at hm HF HO
     clear hC hrow hX
     go_wp2_with ((with_reducible refine gate_builtin (b:= .append) (xs:= #[.tmp 31,.tmp 32]) rfl ?_);at_builtin;refine Kd.R_append_rows k61 (w0:=w) w.heap.size rfl (.tmp 31) (.tmp 32) 59 61 (.agg #[.int .i64 0,.int .u8 0]) 16 rfl Try.underlying59 info61 rfl zab zaa u6 X row _ _ _ (fun _=>True) (fun _=>False) rfl rfl HO.out (kcB HC HB) (fun _ _ h=>h) (fun _ h=>h.elim) (fun _ _=>trivial) HB.out (below_size HB.out) zaa ?_;intro v9 w9 ho hb hg hat;clear hg hat;replace HO:=aK ho;replace HB:=aK hb;clear ho hb)
     go_roundw
     case rel=>exact⟨i+1,by omega,by go_num,⟨by rw[HF.out];exact HO.out⟩,HB⟩
     case measure=>simp[intOf];omega
    ·obtain rfl:i=L.length:=by omega
     rw[List.take_length]at HO
     go_wp2
     go_ret
     exact⟨_,rfl,HO,HB.out⟩
def share_without.f(l:List S61)(q1 q2 q3 q4 _ov:Int):Option (List S61×Int×Bool):=
 if l.length<=1000000/\l.all okT=true then
  (if idxT (fun t=>t.f0==q1) l 0<0∨idxT (fun t=>t.f0==q2) l 0<0∨mulB (rd_T61 l (idxT (fun t=>t.f0==q2) l 0)).f1 (invAt (rd_T61 l (idxT (fun t=>t.f0==q1) l 0)).f1)≠q3 then some (l,0,false)
   else if idxT (fun t=>t.f0==q1) l 0<idxT (fun t=>t.f0==q2) l 0 then
    some (l.take (idxT (fun t=>t.f0==q1) l 0).toNat++((l.take (idxT (fun t=>t.f0==q2) l 0).toNat).drop ((idxT (fun t=>t.f0==q1) l 0).toNat+1)++l.drop ((idxT (fun t=>t.f0==q2) l 0).toNat+1)),(rd_T61 l (idxT (fun t=>t.f0==q1) l 0)).f1,true)
   else none)
 else none
theorem idxT_le(p:S61->Bool): ∀(l:List S61) (i:Int),idxT p l i= -1∨(i<=idxT p l i/\idxT p l i<i+l.length)
 | [],i=> .inl rfl
 |x::r,i=>by
  unfold idxT;by_cases h:p x=true
  ·rw[if_pos h];refine .inr ⟨by omega,?_⟩;rw[List.length_cons];omega
  rw[if_neg h];rcases idxT_le p r (i+1)with e|⟨h1,h2⟩
  ·exact .inl e
  ·refine .inr ⟨by omega,?_⟩;rw[List.length_cons];omega
theorem V_of_R61{w:World}{base:Nat}{v:Value}{r:List S61}(h:Kd.R k61 61 w base (fun _=>True) v r):Kd.V k61 61 w base (fun k=>base<=k) v r:=by
 obtain⟨A,c,rfl⟩:=Kd.R_slice h;exact Kd.V_mk (Kd.R_reads' h).2.1 (fun W' hW=>(Kd.R_reads' (Kd.R_move (Kd.R_bound h) (fun k hk=>hW k hk.2.1 hk.2.2.1))).2.2)
theorem rows3{W:World}{A1 A2 A3:Option Addr}{c1 c2 c3:Nat}{l1 l2 l3:List S61}(h1:Kd.C k61 W A1 l1.length l1)(k1:l1.length<=c1)(h2:Kd.C k61 W A2 l2.length l2)(k2:l2.length<=c2)(h3:Kd.C k61 W A3 l3.length l3)(k3:l3.length<=c3):
 Kd.C (Kd.slice 61 k61) (W.alloc (.cells #[.slice A1 l1.length c1,.slice A2 l2.length c2,.slice A3 l3.length c3] 59)) (some ⟨W.heap.size,0,none⟩) [l1,l2,l3].length [l1,l2,l3]:=by
 have hb:Below W.heap.size W (W.alloc (.cells #[.slice A1 l1.length c1,.slice A2 l2.length c2,.slice A3 l3.length c3] 59)):=below_alloc (Below.refl _ _) _;refine⟨rfl,by simp,fun _=>⟨_,rfl,fun j p hj=>?_⟩⟩
 match j,hj with
 |0,hj=>
  obtain rfl:l1=p:=by simpa using hj
  refine⟨[.slice A1 l1.length c1],rfl,⟨A1,c1,rfl,k1,Kd.C_below h1 hb⟩,fun i u hu=>?_⟩
  match i,hu with
  |0,hu=>obtain rfl:Value.slice A1 l1.length c1=u:=by simpa using hu
         exact(blk_cell (blk_new W _) 0).trans rfl
 |1,hj=>
  obtain rfl:l2=p:=by simpa using hj
  refine⟨[.slice A2 l2.length c2],rfl,⟨A2,c2,rfl,k2,Kd.C_below h2 hb⟩,fun i u hu=>?_⟩
  match i,hu with
  |0,hu=>obtain rfl:Value.slice A2 l2.length c2=u:=by simpa using hu
         exact(blk_cell (blk_new W _) 1).trans rfl
 |2,hj=>
  obtain rfl:l3=p:=by simpa using hj
  refine⟨[.slice A3 l3.length c3],rfl,⟨A3,c3,rfl,k3,Kd.C_below h3 hb⟩,fun i u hu=>?_⟩
  match i,hu with
  |0,hu=>obtain rfl:Value.slice A3 l3.length c3=u:=by simpa using hu
         exact(blk_cell (blk_new W _) 2).trans rfl
theorem rows3'{W:World}{A1 A2 A3:Option Addr}{c1 c2 c3 n1 n2 n3:Nat}{l1 l2 l3:List S61}(e1:l1.length=n1)(e2:l2.length=n2)(e3:l3.length=n3)(h1:Kd.C k61 W A1 l1.length l1)(k1:n1<=c1)(h2:Kd.C k61 W A2 l2.length l2)(k2:n2<=c2)(h3:Kd.C k61 W A3 l3.length l3)(k3:n3<=c3):
 Kd.C (Kd.slice 61 k61) (W.alloc (.cells #[.slice A1 n1 c1,.slice A2 n2 c2,.slice A3 n3 c3] 59)) (some ⟨W.heap.size,0,none⟩) 3 [l1,l2,l3]:=by
 subst e1 e2 e3;exact rows3 h1 k1 h2 k2 h3 k3
theorem share_without.calls(P:Nat->Prop)(A:Option Addr)(c:Nat)(l:List S61)(q1 q2 q3 q4:Int)(gt:Nat)(r1:List S61)(r2:Int)(r3:Bool)(w:World)(hs:Kd.V k61 61 w w.heap.size (fun k_=>P k_) (.slice A l.length c) l)(hg:w.heap[gt]? =some (.cells (invC 256) 54 (0,0)))(h:share_without.f l q1 q2 q3 q4 0=some (r1,r2,r3)):
 Calls Try.prog 43 #[.slice A l.length c,.agg #[.int .i64 q1,.int .i64 q2,.int .u8 q3,.int .i64 q4],.pointer (some ⟨gt,0,none⟩)] w fun e w'=> ∃v:Value,e= .returned (.tuple #[v,.int .u8 r2,.bool r3])/\Kd.V k61 61 w' w.heap.size (fun k_=>(P k_∨w.heap.size<=k_)) v r1/\Below w.heap.size w w':=by
 have ay:=Try.underlying27;have az:=Try.underlying61;obtain⟨_,hc,hf⟩:=Kd.V_at hs;have HC:=aK (hf w (fun _ _ _=>rfl));have HF:=aK hf;have HG:=aK hg;have HL:=aK hc;clear hs hf hg hc;unfold share_without.f at h;by_cases hok:l.length<=1000000/\l.all okT=true
 case neg=>rw[if_neg hok]at h;cases h
 rw[if_pos hok]at h
 obtain⟨hlen,hall⟩:=hok;have HALL:=aK hall;have HLEN:=aK (show l.length<=140737488355328 by omega);clear hall;have hi:=idxT_le (fun t=>t.f0==q1) l 0;have hk:=idxT_le (fun t=>t.f0==q2) l 0;obtain⟨i,ei⟩: ∃x,x=idxT (fun t=>t.f0==q1) l 0:=⟨_,rfl⟩
 obtain⟨k,ek⟩: ∃x,x=idxT (fun t=>t.f0==q2) l 0:=⟨_,rfl⟩
 rw[<-ei,<-ek]at h
 rw[<-ei]at hi
 rw[<-ek]at hk
 have HI:=aK ei;have HK:=aK ek;clear ei ek;have HH:=aK h;clear h;have HB:=aK (Below.refl w.heap.size w)
 go_enter Try.func43,Try.ntmps43
 go_upto_region 2 with(first
  |((with_reducible refine gD 4 rfl ?_);refine bE 4 #[.int .i64 q1,.int .i64 q2,.int .u8 q3,.int .i64 q4] 27 ?_;intro gp hgp w2 hbox hb;have BP:=aK (hbox);have GP:=hbS HB hgp;replace HB:=hbB HB hb;clear hb hbox hgp)
  |(go_at_call 45;refine(idxT.calls l A c (fun t=>t.f0==q1) 53 #[.pointer (some ⟨gp,0,none⟩)] _ (kcB HC HB) HLEN.out (enters_of Try.func53 zad rfl) (fun x _ W hW=>share_without1.calls x gp q1 q2 q3 q4 W ((hW.block _ (Array.getElem?_eq_some_iff.1 BP.out).1).trans BP.out))).mono ?_;rintro e w3 ⟨rfl,hb⟩;rw[<-HI.out];replace HB:=hbB HB hb;replace BP:=bkB BP hb;clear hb))
 go_upto_region 3 with(go_at_call 45;refine(idxT.calls l A c (fun t=>t.f0==q2) 54 #[.pointer (some ⟨gp,0,none⟩)] _ (kcB HC HB) HLEN.out (enters_of Try.func54 zad rfl) (fun x _ W hW=>share_without2.calls x gp q1 q2 q3 q4 W ((hW.block _ (Array.getElem?_eq_some_iff.1 BP.out).1).trans BP.out))).mono ?_;rintro e w4 ⟨rfl,hb⟩;rw[<-HK.out];replace HB:=hbB HB hb;replace BP:=bkB BP hb;clear hb)
 have hin: ¬(i<0∨k<0)->0<=i/\i<l.length/\0<=k/\k<l.length:=by omega
 by_cases hik:i<0∨k<0
 ·have H:=HH.out;rw[if_pos (by rcases hik with h|h;exact .inl h;exact .inr (.inl h))]at H
  obtain⟨rfl,rfl,rfl⟩:l=r1/\0=r2/\false=r3:=by simpa using H
  clear H HH hin hi hk;by_cases h0:i<0
  ·have c0:decide (i<0)=true:=decide_eq_true h0;clear h0 hik;refine start_ (n:=26) (S:=fun w'=>True) (ds:= []) (mB 26 0) zad rfl rfl trivial (fun hHeld=>?_);refine zpu 0 (some 17) (mB 26 1) ?_;refine zpu 1 (some 18) (mB 26 3) ?_;refine zpu 2 (some 19) (mB 26 7) ?_;refine zpn 3 (some 20) (mB 26 15) ?_;refine zpn 4 (some 21) (mB 26 31) ?_;refine zpu 5 (some 22) (mB 26 63) ?_;refine zpu 6 (some 23) (mB 26 127) ?_;refine zpn 7 (some 24) (mB 26 255) ?_;refine zpn 8 (some 25) (mB 26 511) ?_;refine zpn 9 (some 26) (mB 26 1023) ?_;refine zpn 10 (some 27) (mB 26 2047) ?_;refine zpn 11 (some 28) (mB 26 4095) ?_;refine zpn 12 (some 29) (mB 26 8191) ?_;refine zpn 13 (some 30) (mB 26 16383) ?_;refine zpn 14 (some 31) (mB 26 32767) ?_;refine zpn 15 (some 32) (mB 26 65535) ?_;refine zpn 16 (some 33) (mB 26 131071) ?_;refine zpn 17 (some 34) (mB 26 262143) ?_;refine zpn 18 (some 35) (mB 26 524287) ?_;refine zpn 19 (some 36) (mB 26 1048575) ?_;refine zpn 20 (some 37) (mB 26 2097151) ?_;refine zpn 21 (some 38) (mB 26 4194303) ?_;refine zpn 22 (some 39) (mB 26 8388607) ?_;refine zpn 23 (some 40) (mB 26 16777215) ?_;refine zpn 24 (some 41) (mB 26 33554431) ?_;refine zpu 25 (some 42) (mB 26 67108863) ?_;refine done_ zad ?_;go_wp2
   go_ret3
   exact⟨_,rfl,Kd.V_mk HL.out (Kd.F_mono (Kd.F_below HF.out (below_drew HB.out)) (fun _ h=> .inl h)),below_drew HB.out⟩
  have c0:decide (i<0)=false:=decide_eq_false h0;have c1:decide (k<0)=true:=decide_eq_true (hik.resolve_left h0);clear h0 hik;refine start_ (n:=26) (S:=fun w'=>True) (ds:= []) (mB 26 0) zad rfl rfl trivial (fun hHeld=>?_);refine zpu 0 (some 17) (mB 26 1) ?_;refine zpu 1 (some 18) (mB 26 3) ?_;refine zpu 2 (some 19) (mB 26 7) ?_;refine zpu 3 (some 20) (mB 26 15) ?_;refine zpu 4 (some 21) (mB 26 31) ?_;refine zpu 5 (some 22) (mB 26 63) ?_;refine zpu 6 (some 23) (mB 26 127) ?_;refine zpn 7 (some 24) (mB 26 255) ?_;refine zpn 8 (some 25) (mB 26 511) ?_;refine zpn 9 (some 26) (mB 26 1023) ?_;refine zpn 10 (some 27) (mB 26 2047) ?_;refine zpn 11 (some 28) (mB 26 4095) ?_;refine zpn 12 (some 29) (mB 26 8191) ?_;refine zpn 13 (some 30) (mB 26 16383) ?_;refine zpn 14 (some 31) (mB 26 32767) ?_;refine zpn 15 (some 32) (mB 26 65535) ?_;refine zpn 16 (some 33) (mB 26 131071) ?_;refine zpn 17 (some 34) (mB 26 262143) ?_;refine zpn 18 (some 35) (mB 26 524287) ?_;refine zpn 19 (some 36) (mB 26 1048575) ?_;refine zpn 20 (some 37) (mB 26 2097151) ?_;refine zpn 21 (some 38) (mB 26 4194303) ?_;refine zpn 22 (some 39) (mB 26 8388607) ?_;refine zpn 23 (some 40) (mB 26 16777215) ?_;refine zpn 24 (some 41) (mB 26 33554431) ?_;refine zpu 25 (some 42) (mB 26 67108863) ?_;refine done_ zad ?_;go_wp2
  go_ret3
  exact⟨_,rfl,Kd.V_mk HL.out (Kd.F_mono (Kd.F_below HF.out (below_drew HB.out)) (fun _ h=> .inl h)),below_drew HB.out⟩
 obtain⟨i0,i1,k0,k1⟩:=hin hik;have c0:decide (i<0)=false:=decide_eq_false zaa;have c1:decide (k<0)=false:=decide_eq_false zaa;clear hi hk hin hik;obtain⟨I,rfl⟩:=Int.eq_ofNat_of_zero_le i0;obtain⟨J,rfl⟩:=Int.eq_ofNat_of_zero_le k0;obtain⟨ad,eA,av,X⟩:=at_T61 HC.out (I:Int) zaa zaa;obtain⟨ar,aa,ax,ag⟩:=at_T61 HC.out (J:Int) zaa zaa;obtain rfl:ad=ar:=by rw[eA]at aa;injection aa
 subst eA;clear aa av ax;obtain⟨b1,ab⟩: ∃x,x=(rd_T61 l (I:Int)).f1:=⟨_,rfl⟩
 obtain⟨b2,ac⟩: ∃x,x=(rd_T61 l (J:Int)).f1:=⟨_,rfl⟩
 have ai:=(okT_wf (okT_at HALL.out (j:=I) zaa)).2;rw[<-ab]at X ai
 rw[<-ac]at ag
 have H:=HH.out;rw[<-ab,<-ac]at H
 replace HH:=aK H;clear H ab ac;have hgb:=HB.out.block _ (Array.getElem?_eq_some_iff.1 HG.out).1;have hcg:=(blk_cell (hgb.trans HG.out) b1.toNat).trans (invC_at (n:=256) (i:=b1.toNat) zaa);obtain⟨iv,hiv⟩: ∃x,x=invAt b1:=⟨_,rfl⟩
 have H:=HH.out;rw[<-hiv]at H
 have Y:(invTo 256).getD b1.toNat 0=iv:=by rw[hiv];rfl
 rw[Y]at hcg
 have hivr:0<=iv/\iv<256:=by rw[hiv];exact invAt_range b1
 clear hiv Y hgb HH;have HH:=aK H;clear H;have hM:=mulB_some (a:=b2) (b:=iv) hivr;obtain⟨mm,hmm⟩: ∃x,x=mulB b2 iv:=⟨_,rfl⟩
 rw[<-hmm]at hM
 have HMUL:=aK hM.1;have H:=HH.out;rw[<-hmm]at H
 replace HH:=aK H;clear H hM hmm hivr;have hy1':=pw_cell_below (below_drew HB.out) ag;have aq:=aK (show w.cell? ⟨(ad.add (I*2)).block,(ad.add (I*2)).off+1,none⟩=some (.int .u8 b1)from X);have hx1':=pw_cell_below (below_drew HB.out) X;rw[Int.toNat_natCast]at hx1' hy1'
 clear X ag;obtain⟨aj,ak⟩:=ai;by_cases hq:mm=q3
 case neg=>
  have H:=HH.out;rw[if_pos (.inr (.inr hq))]at H
  obtain⟨rfl,rfl,rfl⟩:l=r1/\0=r2/\false=r3:=by simpa using H
  clear H HH;have c2:(mm !=q3)=true:=bne_iff_ne.2 hq;clear hq;refine start_ (n:=26) (S:=fun w'=>w'.cell? ⟨(ad.add (J*2)).block,(ad.add (J*2)).off+1,none⟩=some (.int .u8 b2)/\w'.cell? ⟨(ad.add (I*2)).block,(ad.add (I*2)).off+1,none⟩=some (.int .u8 b1)/\w'.cell? ⟨gt,b1.toNat,none⟩=some (.int .u8 iv)/\w'.cell? ⟨gp,2,none⟩=some (.int .u8 q3)) (ds:= []) (mB 26 0) zad rfl rfl ⟨hy1',hx1',hcg,(blk_cell BP.out 2).trans rfl⟩ (fun hHeld=>?_);refine zpu 0 (some 17) (mB 26 1) ?_;refine zpu 1 (some 18) (mB 26 3) ?_;refine zpu 2 (some 19) (mB 26 7) ?_;refine zpu 3 (some 20) (mB 26 15) ?_;refine zpu 4 (some 21) (mB 26 31) ?_;refine zpu 5 (some 22) (mB 26 63) ?_;refine zpu 6 (some 23) (mB 26 127) ?_;refine zpu 7 (some 24) (mB 26 255) ?_;refine zpu 8 (some 25) (mB 26 511) ?_;refine zpu 9 (some 26) (mB 26 1023) ?_;refine zpu 10 (some 27) (mB 26 2047) ?_;refine zpu 12 (some 29) (mB 26 6143) ?_;refine zpu 13 (some 30) (mB 26 14335) ?_;refine zpu 14 (some 31) (mB 26 30719) ?_;refine zpu 15 (some 32) (mB 26 63487) ?_;refine zpu 16 (some 33) (mB 26 129023) ?_;refine zpu 18 (some 35) (mB 26 391167) ?_;refine zpu 22 (some 39) (mB 26 4585471) ?_;refine ztk4 11 (some 28) (mB 26 4587519) hHeld ?_;refine ztk4 17 (some 34) (mB 26 4718591) hHeld ?_;refine zpu 19 (some 36) (mB 26 5242879) ?_;refine ztk4 20 (some 37) (mB 26 6291455) hHeld ?_;refine ztk4 23 (some 40) (mB 26 14680063) hHeld ?_;refine zon 21 (some 38) (mB 26 16777215) fun K hK=>?_;refine goes_ Try.func39 zad rfl #[.int .u8 b2,.int .u8 iv] zae rfl rfl zbc ?_;refine(field_Mul.calls 9 b2 iv mm _ HMUL.out).mono ?_;rintro e w2 ⟨rfl,⟨nd,rfl⟩⟩;refine⟨_,rfl,?_⟩;refine hK.out _ _ ⟨pw_cell_below (pw_below_drewN (Below.refl _ _) _) hHeld.1,pw_cell_below (pw_below_drewN (Below.refl _ _) _) hHeld.2.1,pw_cell_below (pw_below_drewN (Below.refl _ _) _) hHeld.2.2.1,pw_cell_below (pw_below_drewN (Below.refl _ _) _) hHeld.2.2.2⟩ (fun hHeld=>?_);clear hK K;refine znm (some 38) ?_;refine zpu 24 (some 41) (mB 26 33554431) ?_;refine zpu 25 (some 42) (mB 26 67108863) ?_;refine done_ zad ?_;go_wp2
  go_ret3
  have hbz:=pw_below_drewN (below_drew HB.out) nd;exact⟨_,rfl,Kd.V_mk HL.out (Kd.F_mono (Kd.F_below HF.out hbz) (fun _ h=> .inl h)),hbz⟩
 have H:=HH.out;rw[if_neg (show¬((I:Int)<0∨(J:Int)<0∨mm≠q3)from by omega)]at H
 replace HH:=aK H;clear H;subst hq;have c2:(mm !=mm)=false:=by simp
 refine start_ (n:=26) (S:=fun w'=>w'.cell? ⟨(ad.add (J*2)).block,(ad.add (J*2)).off+1,none⟩=some (.int .u8 b2)/\w'.cell? ⟨(ad.add (I*2)).block,(ad.add (I*2)).off+1,none⟩=some (.int .u8 b1)/\w'.cell? ⟨gt,b1.toNat,none⟩=some (.int .u8 iv)/\w'.cell? ⟨gp,2,none⟩=some (.int .u8 mm)) (ds:= []) (mB 26 0) zad rfl rfl ⟨hy1',hx1',hcg,(blk_cell BP.out 2).trans rfl⟩ (fun hHeld=>?_);refine zpu 0 (some 17) (mB 26 1) ?_;refine zpu 1 (some 18) (mB 26 3) ?_;refine zpu 2 (some 19) (mB 26 7) ?_;refine zpu 3 (some 20) (mB 26 15) ?_;refine zpu 4 (some 21) (mB 26 31) ?_;refine zpu 5 (some 22) (mB 26 63) ?_;refine zpu 6 (some 23) (mB 26 127) ?_;refine zpu 7 (some 24) (mB 26 255) ?_;refine zpu 8 (some 25) (mB 26 511) ?_;refine zpu 9 (some 26) (mB 26 1023) ?_;refine zpu 10 (some 27) (mB 26 2047) ?_;refine zpu 12 (some 29) (mB 26 6143) ?_;refine zpu 13 (some 30) (mB 26 14335) ?_;refine zpu 14 (some 31) (mB 26 30719) ?_;refine zpu 15 (some 32) (mB 26 63487) ?_;refine zpu 16 (some 33) (mB 26 129023) ?_;refine zpu 18 (some 35) (mB 26 391167) ?_;refine zpu 22 (some 39) (mB 26 4585471) ?_;refine ztk4 11 (some 28) (mB 26 4587519) hHeld ?_;refine ztk4 17 (some 34) (mB 26 4718591) hHeld ?_;refine zpu 19 (some 36) (mB 26 5242879) ?_;refine ztk4 20 (some 37) (mB 26 6291455) hHeld ?_;refine ztk4 23 (some 40) (mB 26 14680063) hHeld ?_;refine zon 21 (some 38) (mB 26 16777215) fun K hK=>?_;refine goes_ Try.func39 zad rfl #[.int .u8 b2,.int .u8 iv] zae rfl rfl zbc ?_;refine(field_Mul.calls 9 b2 iv mm _ HMUL.out).mono ?_;rintro e w2 ⟨rfl,⟨nd,rfl⟩⟩;refine⟨_,rfl,?_⟩;refine hK.out _ _ ⟨pw_cell_below (pw_below_drewN (Below.refl _ _) _) hHeld.1,pw_cell_below (pw_below_drewN (Below.refl _ _) _) hHeld.2.1,pw_cell_below (pw_below_drewN (Below.refl _ _) _) hHeld.2.2.1,pw_cell_below (pw_below_drewN (Below.refl _ _) _) hHeld.2.2.2⟩ (fun hHeld=>?_);clear hK K;refine znm (some 38) ?_;refine zpu 24 (some 41) (mB 26 33554431) ?_;refine zpu 25 (some 42) (mB 26 67108863) ?_;refine done_ zad ?_;have HBZ:=aK (pw_below_drewN (below_drew HB.out) nd);generalize w4.drew.drewN nd=w5 at*;have H:=HH.out;by_cases hlt:(I:Int)<(J:Int)
 case neg=>rw[if_neg hlt]at H;cases H
 rw[if_pos hlt]at H
 simp only[Int.toNat_natCast]at H;obtain⟨hr,rfl,rfl⟩:(l.take I++((l.take J).drop (I+1)++l.drop (J+1)))=r1/\b1=r2/\true=r3:=by simpa using H
 have HRES:=aK hr;clear H HH hr HMUL hcg HB BP;obtain⟨a0,G,D⟩:=info61z;have hcl:=HL.out;have hwa:IntKind.i64.wrap ((I:Int)+1)=(I:Int)+1:=biwrap_small zaa zaa;have hwb:wrap64 ((I:Int)+1)=(I:Int)+1:=bwrap_small zaa zaa;have hwc:IntKind.i64.wrap ((J:Int)+1)=(J:Int)+1:=biwrap_small zaa zaa;have hwd:wrap64 ((J:Int)+1)=(J:Int)+1:=bwrap_small zaa zaa;have au:=cut_to (P:=Try.prog) 59 61 .i64 Try.underlying59 G (some ad) l.length c (I:Int) zaa zaa hcl;have ae:=cut_mid (P:=Try.prog) 59 61 .i64 .i64 Try.underlying59 G 2 D (some ad) l.length c ((I+1:Nat):Int) (J:Int) zaa zaa zaa hcl;have af:=cut_from (P:=Try.prog) 59 61 .i64 Try.underlying59 G 2 D (some ad) l.length c ((J+1:Nat):Int) zaa zaa;simp only[Int.toNat_natCast]at au ae af;rw[show((I+1:Nat):Int)=(I:Int)+1 from by omega]at ae
 rw[show((J+1:Nat):Int)=(J:Int)+1 from by omega]at af
 have L:=Kd.C_below HC.out HBZ.out;have al:=Kd.C_take (m:=I) L zaa;have hmid:(l.take J).length<=c:=by rw[List.length_take];omega
 have O:=Kd.C_drop (m:=I+1) (Kd.C_take (m:=J) L zaa) (by rw[List.length_take];omega) hmid;have U:=Kd.C_drop (m:=J+1) L zaa hcl;rw[show k61.sz=2 from rfl]at O U
 have e1:(l.take I).length=I:=by rw[List.length_take];omega
 have e2:((l.take J).drop (I+1)).length=J-(I+1):=by rw[List.length_drop,List.length_take];omega
 have e3:(l.drop (J+1)).length=l.length-(J+1):=List.length_drop;generalize(if c=I+1 then some ad else(some ad).map (·.add ((I+1)*2)))=A2 at ae O;generalize(if c=J+1 then some ad else(some ad).map (·.add ((J+1)*2)))=A3 at af U;have an:=aK al;have ao:=aK O;have ap:=aK U;have HE:=aK (And.intro e1 (And.intro e2 e3));have aw:w5.drew.cell? ⟨(ad.add (I*2)).block,(ad.add (I*2)).off+1,none⟩=some (.int .u8 b1):=pw_cell_below (below_drew HBZ.out) (aq.out);have hIl:I<l.length:=by omega
 clear G D al O U e1 e2 e3 L hmid c0 c1 c2 hx1' hy1' i0 i1 k0 aj ak
 go_upto_region 5 with fail
 refine start_ (n:=22) (S:=fun w'=>w'.cell? ⟨(ad.add (I*2)).block,(ad.add (I*2)).off+1,none⟩=some (.int .u8 b1)) (ds:= []) (mB 22 0) zad rfl rfl (aw) (fun hHeld=>?_);refine zpu 0 (some 44) (mB 22 1) ?_;refine zpu 1 (some 45) (mB 22 3) ?_;refine zpu 2 (some 46) (mB 22 7) ?_;refine zpu 3 (some 47) (mB 22 15) ?_;refine zpu 4 (some 48) (mB 22 31) ?_;refine zpu 5 (some 49) (mB 22 63) ?_;refine zpu 6 (some 50) (mB 22 127) ?_;refine zpu 7 (some 51) (mB 22 255) ?_;refine zpu 8 (some 52) (mB 22 511) ?_;refine zpu 9 (some 53) (mB 22 1023) ?_;refine zpu 10 (some 54) (mB 22 2047) ?_;refine zpu 11 (some 55) (mB 22 4095) ?_;refine zpu 14 (some 58) (mB 22 20479) ?_;refine zpu 15 (some 59) (mB 22 53247) ?_;refine zpu 16 (some 60) (mB 22 118783) ?_;refine zpu 17 (some 61) (mB 22 249855) ?_;refine ztk1 18 (some 62) (mB 22 511999) hHeld ?_;refine zon 12 (some 56) (mB 22 516095) fun K hK=>?_;refine value_ (w1:=?_) (v:=?_) zae rfl ?_ ?_;rotate_left 2
 ·go_simp;constructor
  ·rfl
  ·rfl
 have ah:=aK (rows3' (W:=w5.drew) (n1:=I) (n2:=J-(I+1)) (n3:=l.length-(J+1)) (c1:=c) (c2:=c-(I+1)) (c3:=c-(J+1)) HE.out.1 HE.out.2.1 HE.out.2.2 (Kd.C_below an.out (below_drew (Below.refl _ _))) zaa (Kd.C_below ao.out (below_drew (Below.refl _ _))) zaa (Kd.C_below ap.out (below_drew (Below.refl _ _))) zaa);have Z:=aK (below_alloc (below_drew HBZ.out) (.cells #[.slice (some ad) I c,.slice A2 (J-(I+1)) (c-(I+1)),.slice A3 (l.length-(J+1)) (c-(J+1))] 59));refine hK.out _ _ (pw_cell_below (below_alloc (Below.refl _ _) _) hHeld) (fun hHeld=>?_);clear hK K;refine znm (some 56) ?_;refine zon 13 (some 57) (mB 22 524287) fun K hK=>?_;refine goes_ Try.func55 zad rfl #[.slice (some ⟨w5.drew.heap.size,0,none⟩) 3 3] zae rfl rfl zbc ?_;refine(slices_Concat.calls (some ⟨w5.drew.heap.size,0,none⟩) 3 [l.take I,(l.take J).drop (I+1),l.drop (J+1)] _ ah.out zac zaf).mono ?_;rintro e w6 ⟨v,rfl,HO,hb⟩;refine⟨_,rfl,?_⟩;have am:=hbB Z hb;replace HO:=aK (Kd.R_lower HO.out Z.out.size);clear Z ah;refine hK.out _ _ (pw_cell_below hb hHeld) (fun hHeld=>?_);clear hK K;refine znm (some 57) ?_;refine zpu 19 (some 6) (mB 22 1048575) ?_;refine zpu 20 (some 7) (mB 22 2097151) ?_;refine zpu 21 (some 8) (mB 22 4194303) ?_;refine done_ zad ?_;go_wp2
 go_ret3
 have hfl: [l.take I,(l.take J).drop (I+1),l.drop (J+1)].flatten=r1:=by
  rw[<-HRES.out];simp
 rw[hfl]at HO
 exact⟨v,rfl,Kd.V_mono (V_of_R61 HO.out) (fun k hk=> .inr hk),am.out⟩
def share_shifted.l0:Nat->Int->List (S61)->Int->Int->Option ((List (S61)))
 |0,_,_,_,_=>none
 |k+1,x1,x5,G,D=>if D<G then(if 0<=D then(if D<(x5.length:Int)then(if((rd_T61 x5 D).f0)>=x1 then(share_shifted.l0 k x1 (x5.set (D:Int).toNat (⟨wrap64 (((rd_T61 x5 D).f0)+1),(rd_T61 x5 D).f1⟩:S61)) G (wrap64 (D+1)))else(share_shifted.l0 k x1 x5 G (wrap64 (D+1))))else(none))else(none))else(some x5)
def share_shifted.f(k:Nat)(l0:List (S61))(a1:Int):Option ((List (S61))):=(api_Term_42.f l0).bind fun D=>(share_shifted.l0 k a1 D (D.length:Int) 0)
theorem share_shifted.mono_l: ∀k,(∀y0 y1 y2 y3,LeO (share_shifted.l0 k y0 y1 y2 y3) (share_shifted.l0 (k+1) y0 y1 y2 y3))
 |0=>fun _ _ _ _ r h=>by simp[share_shifted.l0]at h
 |k+1=>by
  have D:=share_shifted.mono_l k
  ·intro y0 y1 y2 y3;unfold share_shifted.l0
   with_reducible repeat' first|exact D _ _ _ _|exact LeO.refl _|exact LeO.none _|refine LeO.ite ?_ ?_|refine LeO.bind ?_ (fun _=>?_)
theorem share_shifted.mono: ∀a0 a1 k,LeO (share_shifted.f k a0 a1) (share_shifted.f (k+1) a0 a1):=by
 intro a0 a1 k;have D:=share_shifted.mono_l k;unfold share_shifted.f
 with_reducible repeat' first|exact D _ _ _ _|exact LeO.refl _|exact LeO.none _|refine LeO.ite ?_ ?_|refine LeO.bind ?_ (fun _=>?_)
theorem share_shifted.calls(k:Nat)(A0:Option Addr)(c0:Nat)(l0:List (S61))(a1:Int)(r:List (S61))(w:World)(bd:Kd.C k61 w A0 l0.length l0)(bb:l0.length<=c0)(h:share_shifted.f k l0 a1=some r):
 Calls Try.prog 44 #[.slice A0 l0.length c0,.int .i64 a1] w fun e w'=> ∃v0_:Value,e= .returned (v0_)/\Kd.R k61 61 w' w.heap.size (fun _=>True) v0_ r/\Below w.heap.size w w':=by
 have bk:=aK bd;have bj:=aK bb;clear bd bb;have HB:=aK (Below.refl w.heap.size w);have H:((api_Term_42.f l0).bind fun I=>(share_shifted.l0 k a1 I (I.length:Int) 0))=some r:=h;clear h;obtain⟨I,A3,H⟩:=bindO H
 (try dsimp only at H)
 have H':=aK H;clear H
 go_enter Try.func44,Try.ntmps44
 go_wp2_with (first|((with_reducible refine gC 42 rfl ?_);refine cG (some 8) Try.func42 #[.slice A0 l0.length c0] ?_;(with_reducible refine(api_Term_42.calls _ _ l0 I _ ?side1 ?side2 A3.out).mono ?_);(case side1=>exact kcA bk.out);(case side2=>exact bj.out);rintro e w4 ⟨bs,rfl,bc,hb⟩;refine⟨_,rfl,?_⟩;have ae:=aK (Kd.R_lower bc (below_size (hbA HB.out)));replace HB:=hbB HB hb;(try clear hb);(try clear bc);obtain⟨bi,a3,bl⟩:=Kd.R_slice ae.out;subst bl))
 go_loopg [11] k (fun kq bm w'=> ∃(G:List (S61)) (D:Int),bm= .int .i64 D/\Aside0 (share_shifted.l0 kq a1 G (I.length:Int) D=some r)/\Aside0 (kq<=k)/\Aside0 (Kd.R k61 61 w' w.heap.size (fun _=>True) (.slice bi I.length a3) G)/\Aside0 (Below w.heap.size w w'))
 case atStart=>exact⟨(I),(0),rsE,H',⟨Nat.le_refl _⟩,⟨kdA ae.out⟩,⟨hbA HB.out⟩⟩
 case round=>
  clear H'
  (try clear p2);(try clear c4)
  obtain⟨G,D,rfl,HA,ap,HO_5,HB⟩:=hrel;have J:=(Kd.R_reads' HO_5.out).1;rw[J]at HO_5
  (try simp only[J])
  cases gk with
  |zero=>exact absurd HA.out (by simp[share_shifted.l0])
  |succ k1=>
   have H:=HA.out;clear HA;simp only[share_shifted.l0]at H;by_cases c6:D<(I.length:Int)
   case neg=>
    rw[if_neg c6]at H
    have c6b0:decide (D<(I.length:Int))=false:=decide_eq_false c6;rw[J]at c6b0
    clear c6;obtain rfl:=Option.some.inj H;go_wp2
    go_ret
    exact⟨_,rfE,by(with_reducible repeat(first|apply Kd.R_alloc|apply Kd.R_drewN|apply Kd.R_drew));exact HO_5.out,hbA HB.out⟩
   rw[if_pos c6]at H
   have c6b0:decide (D<(I.length:Int))=true:=decide_eq_true c6;clear c6;by_cases c7:0<=D
   case neg=>rw[if_neg c7]at H;exact absurd H zac
   rw[if_pos c7]at H
   have c7b0:decide (0<=D)=true:=decide_eq_true c7;clear c7;by_cases c8:D<(G.length:Int)
   case neg=>rw[if_neg c8]at H;exact absurd H zac
   rw[if_pos c8]at H
   have c8b0:decide (D<(G.length:Int))=true:=decide_eq_true c8;clear c8;by_cases c9:((rd_T61 G D).f0)>=a1
   case neg=>
    rw[if_neg c9]at H
    have c9b0:decide (a1<=((rd_T61 G D).f0))=false:=decide_eq_false c9;clear c9;have H':=aK H;clear H;have U:0<=(D:Int):=of_decide_eq_true asE;have X:D<(G.length:Int):=of_decide_eq_true asE;obtain⟨ag,ah,Y,Z⟩:=at_T61 (Kd.R_reads' HO_5.out).2.2 D U X
    cases ah
    replace U:=eq_true U;replace X:=eq_true X;go_wp2
    (try simp only[<-J])
    go_roundg k1
    case measure=>have:=ap.out;omega
    case rel=>exact⟨(G),(wrap64 (D+1)),rsE,H',⟨by have:=ap.out;omega⟩,⟨by(try simp only[J]);(with_reducible repeat(first|apply Kd.R_alloc|apply Kd.R_drewN|apply Kd.R_drew));exact HO_5.out⟩,⟨hbA HB.out⟩⟩
   rw[if_pos c9]at H
   have c9b0:decide (a1<=((rd_T61 G D).f0))=true:=decide_eq_true c9;clear c9;obtain⟨ao,O⟩: ∃y_:List (S61),y_=(G.set (D:Int).toNat (⟨wrap64 (((rd_T61 G D).f0)+1),(rd_T61 G D).f1⟩:S61)):=⟨_,rfl⟩
   replace H:(share_shifted.l0 k1 a1 ao (I.length:Int) (wrap64 (D+1)))=some r:=zH O H
   have a0:=aK O;clear O;have H':=aK H;clear H;have U:0<=(D:Int):=of_decide_eq_true asE;have X:D<(G.length:Int):=of_decide_eq_true asE;obtain⟨ag,ah,Y,Z⟩:=at_T61 (Kd.R_reads' HO_5.out).2.2 D U X
   cases ah
   replace U:=eq_true U;replace X:=eq_true X;have am:0<=(D:Int):=of_decide_eq_true asE;have an:D<(G.length:Int):=of_decide_eq_true asE;obtain⟨a2,a9,ak,al⟩:=at_T61 (Kd.R_reads' HO_5.out).2.2 D am an;obtain rfl:ag=a2:=(by injection a9)
   replace am:=eq_true am;replace an:=eq_true an;have a5:0<=(D:Int):=of_decide_eq_true asE;have a6:(D:Int)<((G.length:Int):Int):=of_decide_eq_true asE;obtain⟨L,br,aw,ax,ba,bq,au⟩:=Kd.R_form HO_5.out zaa
   (first|cases aw|(injection aw with ea_ en_ ec_;(first|subst ea_|(injection ea_ with ea_;subst ea_));subst ec_;clear en_))
   have a8:=aK ax;have bn:=aK au;clear ax ba au
   (first|simp only[add_plain]at Y|skip)
   (first|simp only[add_plain]at Z|skip)
   (first|simp only[add_plain]at ak|skip)
   (first|simp only[add_plain]at al|skip)
   obtain⟨bo,a4,ay,aa,ac⟩:=Kd.R_elem HO_5.out z61 (D:Int) a5 a6;obtain rfl:=k61_openM ay;have bg:wr.cell? ⟨L,(D:Int).toNat*2,none⟩=some (.int .i64 ((rd_T61 G D).f0)):=aa 0 _ rfl;have bh:wr.cell? ⟨L,(D:Int).toNat*2+1,none⟩=some (.int .u8 ((rd_T61 G D).f1)):=aa 1 _ rfl;have be:wr.frozen? ⟨L,(D:Int).toNat*2,none⟩=false:=ac 0;have bf:wr.frozen? ⟨L,(D:Int).toNat*2+1,none⟩=false:=ac 1;clear a4 aa ac ay;replace a5:=eq_true a5;replace a6:=eq_true a6;have av:=aK (show Kd.R k61 61 wr w.heap.size (fun _=>True) (.slice (some ⟨L,0,none⟩) G.length a3) G from(kdA HO_5.out));obtain⟨bp,ai,az,ab,aj⟩:=Kd.R_elem av.out z61 (D:Int) (of_decide_eq_true asE) zby;obtain rfl:=k61_openM az;have af:=Kd.R_seg av.out (D:Int) (of_decide_eq_true asE) zby (seg:= [.int .i64 (wrap64 (((rd_T61 G D).f0)+1))]) (j:=0) ai ab (show 1<=2 from by decide) (x':=(⟨wrap64 (((rd_T61 G D).f0)+1),(rd_T61 G D).f1⟩:S61)) (k61_mkM _ _ _ (⟨wrap64 (((rd_T61 G D).f0)+1),(rd_T61 G D).f1⟩:S61)) (fun _ hk=>hk);have ar:=ab 0 _ rfl
   (try simp only[show(k61).sz=2 from rfl,Nat.mul_one,Nat.add_zero]at ar)
   have aq:=aj 0
   (try simp only[show(k61).sz=2 from rfl,Nat.mul_one,Nat.add_zero]at aq)
   clear ai ab aj az
   go_wp2_with (first|((with_reducible refine gate_store (t:=3) (p:=28) rfl ?_);refine store_event (t:=3) (p:=28) (v:=?vo_w12) (w1:=(wr.setCell ⟨L,(D:Int).toNat*2,none⟩ (.int .i64 (wrap64 (((rd_T61 G D).f0)+1))))) ?hg ?ho ?hn ?hr ?_;(case ho=>rfl);(case hg=>rfl);(case hn=>rfl);(case hr=>first|(go_simp;done)|(go_simp;rfl));intro a7 hw;have hg:wr.grownBy a7 (some L):=(by rw[hw];exact af.2);have hp_:Kd.R k61 61 a7 w.heap.size (fun _=>True) (.slice (some ⟨L,0,none⟩) G.length a3) ao:=(by rw[hw,a0.out];exact af.1);clear af;replace HO_5:=aK (hp_);replace HB:=aK ((by rw[hw];exact below_set (HB.out) a8.out:Below w.heap.size w a7));clear hg hw hp_))
   (try simp only[<-J])
   go_roundg k1
   case measure=>have:=ap.out;omega
   case rel=>exact⟨(ao),(wrap64 (D+1)),rsE,H',⟨by have:=ap.out;omega⟩,⟨by(try simp only[J]);(with_reducible repeat(first|apply Kd.R_alloc|apply Kd.R_drewN|apply Kd.R_drew));exact HO_5.out⟩,⟨hbA HB.out⟩⟩
def cellsT(x:S61):List Value:= [.int .i64 x.f0,.int .u8 x.f1]
theorem cellsT_len(xs:List S61):(xs.flatMap cellsT).length=xs.length*2:=by
 induction xs with
 |nil=>rfl
 |cons x r ih=>
  rw[List.flatMap_cons,List.length_append,ih,List.length_cons];show 2+r.length*2=(r.length+1)*2;omega
theorem M61{w:World}{base:Nat}{ok:Nat->Prop}{x:S61}{cs:List Value}(h:k61.M w base ok x cs):cs=cellsT x:=by
 obtain⟨c0,c1,rfl,h0,h1⟩:=h;have e0:c0= [.int .i64 x.f0]:=h0;have e1:c1= [.int .u8 x.f1]:=h1;rw[e0,e1];rfl
theorem M61'(w:World)(base:Nat)(ok:Nat->Prop)(x:S61):k61.M w base ok x (cellsT x):=⟨[.int .i64 x.f0],[.int .u8 x.f1],rfl,rfl,rfl⟩
theorem reps_flat{R:S61->List Value->Prop}(hR: ∀p c,R p c->c=cellsT p): ∀(xs:List S61) (inner:List Value),Reps R 2 xs inner->inner=xs.flatMap cellsT
 | [],inner,h=>List.length_eq_zero_iff.1 (by simpa using h.1)
 |x::r,inner,h=>by
  have h1:=hR _ _ (h.2 0 x rfl);have h2:Reps R 2 r (inner.drop 2):=⟨by rw[List.length_drop,h.1,List.length_cons];omega,fun j p hp=>by
   have:=h.2 (j+1) p (by simpa using hp);rw[List.drop_drop,show 2+j*2=(j+1)*2 from by omega];exact this⟩
  have h3:=reps_flat hR r _ h2;rw[List.flatMap_cons,<-h3,<-h1];simp
theorem flat_reps{R:S61->List Value->Prop}(hR: ∀p,R p (cellsT p)): ∀xs:List S61,Reps R 2 xs (xs.flatMap cellsT)
 | []=>Reps.none _ _
 |x::r=>by
  have ih:=flat_reps hR r;refine⟨cellsT_len _,fun j p hp=>?_⟩
  cases j with
  |zero=>
   obtain rfl:x=p:=by simpa using hp
   exact hR x
  |succ j=>
   have h1:=ih.2 j p (by simpa using hp);have e:((x::r).flatMap cellsT).drop ((j+1)*2)=(r.flatMap cellsT).drop (j*2):=by
    rw[List.flatMap_cons,show(j+1)*2=(cellsT x).length+j*2 from by show _=2+j*2;omega,<-List.drop_drop,List.drop_left]
   rw[e];exact h1
theorem cellsT_one(xs:List S61): ∀v∈xs.flatMap cellsT,v.oneCell'=true:=by
 intro v hv;obtain⟨x,_,hx⟩:=List.mem_flatMap.1 hv;rcases List.mem_cons.1 hx with rfl|hx
 ·rfl
 ·obtain rfl:=List.mem_singleton.1 hx;rfl
theorem own61{w:World}{base:Nat}{ok:Nat->Prop}{xs:List S61}{v:Value}(h:Kd.R k61 61 w base ok v xs)(h0:0<xs.length):
 ∃g cap cur,v= .slice (some ⟨g,0,none⟩) xs.length cap/\base<=g/\w.heap[g]? =some (.cells cur 61 (0,0))/\xs.length<=cap/\cap<=maxLen/\cur.size=cap*2/\cur.toList.take (xs.length*2)=xs.flatMap cellsT:=by
 obtain⟨_,inner,⟨_,ho⟩,hr⟩:=h;rcases ho with⟨_,h1⟩|⟨g,cap,cur,hv,hb,hg,hn,hm,hs,ht⟩
 ·omega
 ·exact⟨g,cap,cur,hv,hb,hg,hn,hm,hs,by rw[show xs.length*2=xs.length*k61.sz from rfl,ht];exact reps_flat (fun _ _ hp=>M61 hp) xs inner hr⟩
theorem own61'{w:World}{base g cap:Nat}{ok:Nat->Prop}{xs:List S61}{cur:Array Value}(hok:ok g)(hb:base<=g)(hg:w.heap[g]? =some (.cells cur 61 (0,0)))(hn:xs.length<=cap)(hm:cap<=maxLen)(hs:cur.size=cap*2)(ht:cur.toList.take (xs.length*2)=xs.flatMap cellsT):
 Kd.R k61 61 w base ok (.slice (some ⟨g,0,none⟩) xs.length cap) xs:=
 ⟨fun k hk=>by have:g=k:=by simpa[Value.ownBlock]using hk
               rw[<-this];exact hok,xs.flatMap cellsT,⟨cellsT_len xs,.inr ⟨g,cap,cur,rfl,hb,hg,hn,hm,hs,ht⟩⟩,flat_reps (fun p=>M61' _ _ _ p) xs⟩
theorem run_copy_row2{P:Program}(w:World)(dT sT ty elem:TypeId)(g o dLen dCap:Nat)(a:Addr)(sLen sCap:Nat)(cur:Array Value)(t:TypeId)(cs:List Value)(m:Nat)
 (hu:P.underlying dT=some (.slice elem)) (hs:(P.info? elem).map (·.size)=some 2)
 (hg:w.heap[g]? =some (.cells cur t (0,0))) (hm:m=Nat.min sLen dLen) (hn:cs.length=m*2)
 (hsrc: ∀j v,cs[j]? =some v->w.cell? (a.add j)=some v) (hfit:o+cs.length<=cur.size) (h1: ∀v∈cs,v.oneCell'=true):
 (Builtin.copy_ #[dT,sT] ty #[.slice (some ⟨g,o,none⟩) dLen dCap,.slice (some a) sLen sCap]).run P w=
   .ok (goInt m) (w.setRow g (cur.toList.take o++cs++cur.toList.drop (o+cs.length)).toArray):=by
 have hl:=run_loadCells_list (P:=P) w a cs hsrc;have hst:=run_storeCells_at P g o t cs 0 cur w hg (by simpa using hfit) h1
 cases hq:P.info? elem with
 |none=>simp[hq]at hs
 |some i=>
  have hi:i.size=2:=by simpa[hq]using hs
  rw[hn]at hl
  simp[Builtin.copy_,run_underlying hu,Builtin.lenOf,Builtin.firstCells,sizeOf,typeInfo,hq,hi,<-hm,hl,hst]
theorem cut_cap{P:Program}(t e:TypeId)(kh:IntKind){i:TypeInfo}(ht:P.underlying t=some (.slice e))(hi:P.info? e=some i)(A:Option Addr)(n c:Nat)(j:Int)(h0:0<=j)(hm:j<=c):
 ∀W:World,(Instr.slice t (.slice A n c) none (some (.int kh j)) none).run P W= .ok (.slice A j.toNat c) W:=by
 intro W;have hel:P.elem t=e:=by simp[Program.elem,ht]
 have hu:P.underlying t=some (.slice (P.elem t)):=by rw[hel];exact ht
 have ha:(A.map fun x=>x.add 0)=A:=by cases A<;>simp[Addr.add]
 rw[run_slice_h W t A n c hu kh j h0 hm,hel];simp[sizeOf,typeInfo,hi,sliced,Result.andThen,ha]
theorem splice_in{α:Type}(Z P D C:List α)(i2 n2:Nat)(hP:P.length=i2)(hC:C.length=2)(hD:i2+D.length=n2)(hZ:Z.take n2=P++D)(hl:n2+2<=Z.length):
 let Z1:=Z.take (i2+2)++D++Z.drop (i2+2+D.length)
 Z1.length=Z.length/\(Z1.take i2++C++Z1.drop (i2+C.length)).length=Z.length/\(Z1.take i2++C++Z1.drop (i2+C.length)).take (n2+2)=P++C++D:=by
 intro Z1;have h1:(Z.take (i2+2)).length=i2+2:=by rw[List.length_take];omega
 have G:Z1.length=Z.length:=by simp only[Z1,List.length_append,h1,List.length_drop];omega
 have ht:Z1.take i2=P:=by
  simp only[Z1,List.append_assoc];rw[List.take_append_of_le_length zaa,List.take_take,show min i2 (i2+2)=i2 from by omega];have:Z.take i2=(Z.take n2).take i2:=by rw[List.take_take,show min i2 n2=i2 from by omega]
  rw[this,hZ,<-hP,List.take_left]
 have hd:Z1.drop (i2+C.length)=D++Z.drop (i2+2+D.length):=by
  simp only[Z1,List.append_assoc];rw[hC];exact List.drop_left' h1
 refine⟨G,?_,?_⟩
 ·rw[ht,hd];simp only[List.length_append,List.length_drop];omega
 ·rw[ht,hd,<-List.append_assoc];rw[List.take_append_of_le_length zat];exact List.take_of_length_le zat
theorem splice_new{α:Type}(P O D C:List α)(i2 n2:Nat)(hP:P.length=i2)(hC:C.length=2)(hD:i2+D.length=n2)(hO:n2+2<=i2+O.length):
 let Z:=P++O
 let Z1:=Z.take i2++C++Z.drop (i2+C.length)
 Z1.length=Z.length/\(Z1.take (i2+2)++D++Z1.drop (i2+2+D.length)).length=Z.length/\(Z1.take (i2+2)++D++Z1.drop (i2+2+D.length)).take (n2+2)=P++C++D:=by
 intro Z Z1;have hz:Z.length=i2+O.length:=by simp only[Z,List.length_append];omega
 have G:Z.take i2=P:=by simp only[Z];rw[<-hP,List.take_left]
 have I:Z1.length=Z.length:=by
  simp only[Z1,List.length_append,G,List.length_drop];omega
 have ht:Z1.take (i2+2)=P++C:=by
  simp only[Z1,G];rw[List.take_append_of_le_length zat];exact List.take_of_length_le zat
 refine⟨I,?_,?_⟩
 ·simp only[List.length_append,List.length_take,List.length_drop];omega
 ·rw[ht,List.take_append_of_le_length zat];exact List.take_of_length_le zat
theorem grow_rowD(W:World)(g:Nat)(cs:Array Value):W.grownBy (W.drew.setRow g cs) (some g):=⟨rfl,rfl,rfl,by simp,fun k _ hk=>setRow_other W.drew g k cs (fun e=>hk (by rw[e]))⟩
def insN(i:Nat)(t:S61)(xs:List S61):List S61:=xs.take i++t::xs.drop i
theorem insN_flat(i:Nat)(t:S61)(xs:List S61):(insN i t xs).flatMap cellsT=(xs.take i).flatMap cellsT++cellsT t++(xs.drop i).flatMap cellsT:=by
 unfold insN;rw[List.flatMap_append,List.flatMap_cons,List.append_assoc]
theorem insN_len(i:Nat)(t:S61)(xs:List S61):(insN i t xs).length=xs.length+1:=by
 unfold insN;rw[List.length_append,List.length_cons,<-Nat.add_assoc,<-List.length_append,List.take_append_drop]
theorem info61s:(Try.prog.info? 61).map (·.size)=some 2:=by
 obtain⟨i,hi,hs⟩:=info61z;rw[hi,<-hs];rfl
theorem addr_at(g o k:Nat):(⟨g,o,none⟩:Addr).add k=⟨g,o+k,none⟩:=by unfold Addr.add;split<;>simp_all
theorem grow_row(W:World)(g:Nat)(cs:Array Value):W.grownBy (W.setRow g cs) (some g):=⟨rfl,rfl,rfl,by simp,fun k _ hk=>setRow_other W g k cs (fun e=>hk (by rw[e]))⟩
theorem wraps2{x:Int}(h0:0<=x)(h1:x<=1000000000):IntKind.i64.wrap x=x/\wrap64 x=x:=⟨biwrap_small h0 h1,bwrap_small h0 h1⟩
theorem slices_Insert.calls(base:Nat)(ok:Nat->Prop)(w0:World)(v:Value)(xs:List S61)(i:Nat)(t:S61)(gv:Nat)(w:World)(HO:Kd.R k61 61 w base ok v xs)(hv:w.heap[gv]? =some (.cells #[.int .i64 t.f0,.int .u8 t.f1] 61 (0,0)))(hne:some gv≠v.ownBlock)(hi:i<=xs.length)(hl:xs.length<=1000000)(HB:Below base w0 w)(hbase:base<=w.heap.size)(hfresh: ∀k,w.heap.size<=k->ok k):
 Calls Try.prog 47 #[v,.int .i64 (i:Int),.slice (some ⟨gv,0,none⟩) 1 1] w fun e w'=> ∃v1,e= .returned v1/\Kd.R k61 61 w' base ok v1 (insN i t xs)/\Below base w0 w'/\w.grownBy w' v.ownBlock/\(v1.ownBlock=v.ownBlock∨ ∃b,v1.ownBlock=some b/\w.heap.size<=b):=by
 have ai:Kd.C k61 w (some ⟨gv,0,none⟩) 1 [t]:=⟨rfl,by decide,fun _=>⟨_,rfl,fun j p hj=>by
  cases j with
  |succ j=>simp at hj
  |zero=>
   obtain rfl:t=p:=by simpa using hj
   refine⟨cellsT t,rfl,⟨[.int .i64 t.f0],[.int .u8 t.f1],rfl,rfl,rfl⟩,fun q u hu=>?_⟩;rw[Nat.zero_mul,Nat.zero_add,addr_at,Nat.zero_add,blk_cell hv]
   match q,hu with
   |0,hu=>exact hu
   |1,hu=>exact hu⟩⟩
 obtain⟨bb,I,L⟩:=info61z;by_cases hin:i=xs.length
 ·subst hin;have HI:=aK (show insN xs.length t xs=xs++ [t]by simp[insN]);rw[HI.out];obtain⟨A,c,rfl⟩:=Kd.R_slice HO;have hc:=(Kd.R_reads' HO).2.1;have hs:=cut_from (P:=Try.prog) 59 61 .i64 Try.underlying59 I 2 L A xs.length c (xs.length:Int) zaa zaa;rw[Int.toNat_natCast]at hs
  generalize(if c=xs.length then A else A.map (·.add (xs.length*2)))=AZ at hs;have HOO:=aK HO;have HCC:=aK ai;have HBB:=aK HB;have HBS:=aK hbase;clear HO ai HB hbase hv hne I
  go_enter Try.func47,Try.ntmps47
  go_wp2_with ((with_reducible refine gate_builtin (b:= .append) (xs:= #[.tmp 23,.tmp 24]) rfl ?_);at_builtin;refine Kd.R_append_rows k61 (w0:=w0) base rfl (.tmp 23) (.tmp 24) 59 61 (.agg #[.int .i64 0,.int .u8 0]) 16 rfl Try.underlying59 info61 rfl zab zaa (.slice A xs.length c) xs [t] _ _ _ ok (fun _=>False) rfl rfl HOO.out HCC.out (fun _ _ h=>h) (fun _ h=>h.elim) hfresh HBB.out HBS.out zaa ?_;intro v9 w9 ho hb hg hat;have a1:=aK ho;have az:=aK hb;have a0:=aK hg;have ay:=aK hat;clear ho hb hg hat)
  go_ret
  exact⟨v9,rfl,a1.out,az.out,a0.out,ay.out⟩
 obtain⟨g,cap,cur,rfl,hbg,hg,hn,hm,hs,ht⟩:=own61 HO zaa;have hgv:gv≠g:=fun e=>hne (by rw[e];rfl);obtain⟨n,hnn⟩: ∃n,n=xs.length:=⟨_,rfl⟩
 rw[<-hnn]at hi hl hn ht hin⊢
 obtain⟨P,hP⟩: ∃P,P=(xs.take i).flatMap cellsT:=⟨_,rfl⟩
 obtain⟨D,hD⟩: ∃D,D=(xs.drop i).flatMap cellsT:=⟨_,rfl⟩
 have hPl:P.length=i*2:=by rw[hP,cellsT_len,List.length_take];omega
 have hDl:D.length=(n-i)*2:=by rw[hD,cellsT_len,List.length_drop,<-hnn]
 have hPD:cur.toList.take (n*2)=P++D:=by rw[ht,hP,hD,<-List.flatMap_append,List.take_append_drop]
 have a5: ∀u∈P,u.oneCell'=true:=by rw[hP];exact cellsT_one _
 have ak: ∀u∈D,u.oneCell'=true:=by rw[hD];exact cellsT_one _
 have aj: ∀u∈cellsT t,u.oneCell'=true:=by
  have:=cellsT_one [t];simpa using this
 have hF:(insN i t xs).flatMap cellsT=P++cellsT t++D:=by rw[insN_flat,<-hP,<-hD]
 have hFl:(insN i t xs).length=n+1:=by rw[insN_len,<-hnn]
 have hZl:cur.toList.length=cap*2:=by rw[Array.length_toList];exact hs
 have hcell: ∀j u,(P++D)[j]? =some u->w.cell? ⟨g,j,none⟩=some u:=fun j u hj=>by
  rw[blk_cell hg,<-Array.getElem?_toList];rw[<-hPD,List.getElem?_take]at hj
  split at hj
  ·exact hj
  ·cases hj
 have hsrcD: ∀j u,D[j]? =some u->w.cell? ((⟨g,i*2,none⟩:Addr).add j)=some u:=fun j u hj=>by
  rw[addr_at];refine hcell _ _ ?_;rw[List.getElem?_append_right zaa,hPl,Nat.add_sub_cancel_left];exact hj
 have hsrcT: ∀j u,(cellsT t)[j]? =some u->w.cell? ((⟨gv,0,none⟩:Addr).add j)=some u:=fun j u hj=>by
  rw[addr_at,Nat.zero_add,blk_cell hv]
  match j,hj with
  |0,hj=>exact hj
  |1,hj=>exact hj
 have HM:=aK hm;clear ai ht hP hD hm;have a6: ¬((i:Int)=(n:Int)):=by omega
 have ar:=cut_from (P:=Try.prog) 59 61 .i64 Try.underlying59 I 2 L (some ⟨g,0,none⟩) n cap (i:Int) zaa zaa;rw[Int.toNat_natCast,if_neg (show¬cap=i from by omega),Option.map_some,addr_at,Nat.zero_add]at ar
 by_cases hroom:n+1<=cap
 ·have a9: ¬((cap:Int)<(n:Int)+1):=by omega
  have au:=cut_cap (P:=Try.prog) 59 61 .i64 Try.underlying59 I (some ⟨g,0,none⟩) n cap ((n:Int)+1) zaa zaa;rw[show((n:Int)+1).toNat=n+1 from by omega]at au
  have av:=cut_from (P:=Try.prog) 59 61 .i64 Try.underlying59 I 2 L (some ⟨g,0,none⟩) (n+1) cap ((i:Int)+1) zaa zaa;rw[show((i:Int)+1).toNat=i+1 from by omega,if_neg (show¬cap=i+1 from by omega),Option.map_some,addr_at,Nat.zero_add]at av
  have aw:=cut_from (P:=Try.prog) 59 61 .i64 Try.underlying59 I 2 L (some ⟨g,0,none⟩) (n+1) cap (i:Int) zaa zaa;rw[Int.toNat_natCast,if_neg (show¬cap=i from by omega),Option.map_some,addr_at,Nat.zero_add]at aw
  have hov: ∀lb cb,(callFunc 56 #[.slice (some ⟨gv,0,none⟩) 1 1,.slice (some ⟨g,(i+1)*2,none⟩) lb cb]).run Try.prog w= .ok (.value (.bool false)) w:=fun lb cb=>by
   rw[run_callFunc_extern Try.func56 zad zad zad (e:=Extern.SlicesOverlaps.overlaps #[59,59] #[4]) zad,
    Lib.run_overlaps_apart w 59 4 61 Try.underlying59 2 Try.sizeOf61 ⟨gv,0,none⟩ ⟨g,(i+1)*2,none⟩ 1 1 lb cb hgv 61 61 2 (cap*2) (by simp[World.shape?,hv]) (by simp[World.shape?,hg,hs]) zaa (blk_frozen hv 0) (blk_frozen hv 2)]
   rfl
  obtain⟨ag,Z,aa⟩:=splice_in cur.toList P D (cellsT t) (i*2) (n*2) hPl rfl (by rw[hDl];omega) hPD (by rw[hZl];omega);obtain⟨Z1,U⟩: ∃Z1,Z1=cur.toList.take (i*2+2)++D++cur.toList.drop (i*2+2+D.length):=⟨_,rfl⟩
  rw[<-U]at ag Z aa
  obtain⟨Z2,X⟩: ∃Z2,Z2=Z1.take (i*2)++cellsT t++Z1.drop (i*2+(cellsT t).length):=⟨_,rfl⟩
  rw[<-X]at Z aa
  have ao: ∀ty dc sc,(Builtin.copy_ #[59,59] ty #[.slice (some ⟨g,(i+1)*2,none⟩) (n-i) dc,.slice (some ⟨g,i*2,none⟩) (n+1-i) sc]).run Try.prog w.drew= .ok (goInt ((n-i:Nat):Int)) (w.drew.setRow g Z1.toArray):=fun ty dc sc=>by
   rw[U,show i*2+2=(i+1)*2 from by omega];exact run_copy_row2 (P:=Try.prog) w.drew _ _ ty 61 g ((i+1)*2) _ dc ⟨g,i*2,none⟩ _ sc cur 61 D (n-i) Try.underlying59 info61s hg zbd hDl hsrcD (by rw[hDl,hs];omega) ak
  have ae:(w.drew.setRow g Z1.toArray).heap[g]? =some (.cells Z1.toArray 61 (0,0)):=setRow_heap w.drew g cur Z1.toArray 61 (0,0) hg;have ap: ∀ty dc,(Builtin.copy_ #[59,59] ty #[.slice (some ⟨g,i*2,none⟩) (n+1-i) dc,.slice (some ⟨gv,0,none⟩) 1 1]).run Try.prog (w.drew.setRow g Z1.toArray)= .ok (goInt 1) ((w.drew.setRow g Z1.toArray).setRow g Z2.toArray):=fun ty dc=>by
   have:=run_copy_row2 (P:=Try.prog) (w.drew.setRow g Z1.toArray) 59 59 ty 61 g (i*2) (n+1-i) dc ⟨gv,0,none⟩ 1 1 Z1.toArray 61 (cellsT t) 1 Try.underlying59 info61s ae zbd rfl (fun j u hj=>by rw[cell_setRow_other _ _ _ _ (by rw[addr_at];exact hgv)];exact hsrcT j u hj) (by rw[List.size_toArray,ag,hZl];show i*2+2<=_;omega) aj;rw[X];exact this
  clear hsrcD hsrcT hcell U X I hPD ae;have Y:(0:Int)<=(n:Int)+1/\(n:Int)+1<=1000000000/\(0:Int)<=(i:Int)+1/\(i:Int)+1<=1000000000:=⟨by omega,by omega,by omega,by omega⟩
  have al:(0:Int)<=(i:Int)+1/\(i:Int)+1<=(n:Int)+1/\(i:Int)<=(n:Int)+1/\(n:Int)+1<=(cap:Int):=⟨by omega,by omega,by omega,by omega⟩
  have hwc:=(wraps2 Y.2.2.1 Y.2.2.2).1;obtain⟨hb3a,hb3b,hb3c,hb3d⟩:=al;have hci: ¬cap=i+1:=by omega
  have an: ¬cap=i:=by omega
  have htn:((i:Int)+1).toNat=i+1:=by omega
  have HNN:=aK hnn;have mixed:Try.prog.follows Departure.mixedOrders=true:=by kernel_rfl
  clear Y hnn
  go_enter Try.func47,Try.ntmps47
  go_wp2_with (simp only[hov])
  go_region_law_o (refine step_copy_runI rfl _ _ 59 59 rfl _ _ zbf zbf (ao _ _ _) ?_)
  go_wp2_with (at_builtin;refine wpList_copy_runI _ rfl _ _ 59 59 rfl _ _ rfl rfl (ap _ _) ?_)
  go_ret
  have hsz:(w.drew.setRow g Z1.toArray).setRow g Z2.toArray=w.drew.setRow g Z2.toArray:=setRow_setRow _ _ _ _;rw[hsz];have hZ2l:Z2.toArray.size=cap*2:=by rw[List.size_toArray,Z,hZl]
  have hR:=own61' (w:=w.drew.setRow g Z2.toArray) (base:=base) (xs:=insN i t xs) (HO.1 g rfl) hbg (setRow_heap w.drew g cur Z2.toArray 61 (0,0) hg) (by rw[hFl];exact hroom) HM.out hZ2l zb8;rw[hFl]at hR
  exact⟨_,rfl,hR,below_setRow (below_drew HB) hbg _,grow_rowD w g Z2.toArray,.inl rfl⟩
 obtain⟨ax,ah,hzj⟩:=Option.map_eq_some_iff.1 info61;simp only[Prod.mk.injEq]at hzj;obtain⟨hz,hsz,hby⟩:=hzj;have hgl:g<w.heap.size:=(Array.getElem?_eq_some_iff.1 hg).1;have hvl:gv<w.heap.size:=(Array.getElem?_eq_some_iff.1 hv).1;have hold:(Builtin.firstCells ax.size i (.slice (some ⟨g,0,none⟩) i cap)).run Try.prog w.drew= .ok P.toArray w.drew:=by
  rw[hsz];exact run_firstCells_some w.drew 2 i ⟨g,0,none⟩ i cap P hPl (fun j u hj=>by
   rw[addr_at,Nat.zero_add];refine hcell j u ?_;rw[List.getElem?_append_left (List.getElem?_eq_some_iff.1 hj).1];exact hj)
 have hkk:(n:Int)+1-(i:Int)=((n+1-i:Nat):Int):=by omega
 have hrz: ∀ty,(Builtin.append_ #[59,3] ty #[.slice (some ⟨g,0,none⟩) i cap,.int .i64 ((n:Int)+1-(i:Int))]).run Try.prog w=
  .ok (.slice (some ⟨w.heap.size,0,none⟩) (n+1) (grownCap w (n+1) cap 61)) (w.drew.alloc (.cells (P.toArray++Builtin.zeroCells (Value.agg #[.int .i64 0,.int .u8 0]).cells (n+1-i)++Builtin.zeroCells (Value.agg #[.int .i64 0,.int .u8 0]).cells (grownCap w (n+1) cap 61-(n+1))) 61)):=fun ty=>by
  have h:=Lib.run_append_grow_zeros w 59 3 ty 61 ax (.agg #[.int .i64 0,.int .u8 0]) .i64 .i64 Try.underlying59 Try.underlying3 ah hz (some ⟨g,0,none⟩) i cap P hold (n+1-i) zaa (by rw[hsz];decide) zaa zaa (by rw[hby];omega) (by rw[hby];exact growslice_fits_wide zaa zaa);rw[show i+(n+1-i)=n+1 from by omega]at h
  rw[hkk];exact h
 have hGn:n+1<=grownCap w (n+1) cap 61:=grownCap_ge w _ _ _;have hGm:=grownCap_le_maxLen w (n+1) cap 61 (by unfold maxLen;omega);generalize grownCap w (n+1) cap 61=G at hrz hGn hGm;obtain⟨O,hO⟩: ∃O:List Value,O=(Builtin.zeroCells (Value.agg #[.int .i64 0,.int .u8 0]).cells (n+1-i)++Builtin.zeroCells (Value.agg #[.int .i64 0,.int .u8 0]).cells (G-(n+1))).toList:=⟨_,rfl⟩
 have hOl:O.length=(n+1-i)*2+(G-(n+1))*2:=by
  rw[hO,Array.length_toList,Array.size_append,size_zeroCells,size_zeroCells];rfl
 obtain⟨ROW,hROW⟩: ∃R:Array Value,R=P.toArray++Builtin.zeroCells (Value.agg #[.int .i64 0,.int .u8 0]).cells (n+1-i)++Builtin.zeroCells (Value.agg #[.int .i64 0,.int .u8 0]).cells (G-(n+1)):=⟨_,rfl⟩
 have hRl:ROW.toList=P++O:=by rw[hROW,hO];simp
 rw[<-hROW]at hrz
 clear hROW hO;obtain⟨ag,Z,aa⟩:=splice_new P O D (cellsT t) (i*2) (n*2) hPl rfl (by rw[hDl];omega) (by rw[hOl];omega);obtain⟨Z1,U⟩: ∃Z1,Z1=(P++O).take (i*2)++cellsT t++(P++O).drop (i*2+(cellsT t).length):=⟨_,rfl⟩
 rw[<-U]at ag Z aa
 obtain⟨Z2,X⟩: ∃Z2,Z2=Z1.take (i*2+2)++D++Z1.drop (i*2+2+D.length):=⟨_,rfl⟩
 rw[<-X]at Z aa
 have hPOl:(P++O).length=G*2:=by rw[List.length_append,hPl,hOl];omega
 obtain⟨W1,ac⟩: ∃W1,W1=w.drew.alloc (.cells ROW 61):=⟨_,rfl⟩
 rw[<-ac]at hrz
 have ae:W1.heap[w.heap.size]? =some (.cells ROW 61 (0,0)):=by rw[ac];exact blk_new w.drew _
 have af: ∀k,k<w.heap.size->W1.heap[k]? =w.heap[k]? :=fun k hk=>by rw[ac];exact heap_alloc_old w.drew _ hk
 have J: ∀(a:Addr) u,a.block<w.heap.size->w.cell? a=some u->W1.cell? a=some u:=fun a u ha hu=>(bcell_same (af _ ha)).trans hu;have ab:w.grownBy W1 (some g):=by rw[ac];exact⟨rfl,rfl,rfl,by simp,fun k hk _=>heap_alloc_old w.drew _ hk⟩
 have am:Below base w0 W1:=by rw[ac];exact HB.trans ((below_alloc (below_drew (Below.refl _ _)) _:Below w.heap.size w _).mono hbase)
 clear ac hold;have hcpA: ∀ty dc,(Builtin.copy_ #[59,59] ty #[.slice (some ⟨w.heap.size,i*2,none⟩) (n+1-i) dc,.slice (some ⟨gv,0,none⟩) 1 1]).run Try.prog W1= .ok (goInt 1) (W1.setRow w.heap.size Z1.toArray):=fun ty dc=>by
  have:=run_copy_row2 (P:=Try.prog) W1 59 59 ty 61 w.heap.size (i*2) (n+1-i) dc ⟨gv,0,none⟩ 1 1 ROW 61 (cellsT t) 1 Try.underlying59 info61s ae zbd rfl (fun j u hj=>J _ _ (by rw[addr_at];exact hvl) (hsrcT j u hj)) (by rw[<-Array.length_toList,hRl,hPOl];show i*2+2<=_;omega) aj;rw[hRl]at this
  rw[U];exact this
 have aq:(W1.setRow w.heap.size Z1.toArray).heap[w.heap.size]? =some (.cells Z1.toArray 61 (0,0)):=setRow_heap W1 w.heap.size ROW Z1.toArray 61 (0,0) ae;have hcpB: ∀ty dc sc,(Builtin.copy_ #[59,59] ty #[.slice (some ⟨w.heap.size,(i+1)*2,none⟩) (n-i) dc,.slice (some ⟨g,i*2,none⟩) (n-i) sc]).run Try.prog (W1.setRow w.heap.size Z1.toArray).drew= .ok (goInt ((n-i:Nat):Int)) ((W1.setRow w.heap.size Z1.toArray).drew.setRow w.heap.size Z2.toArray):=fun ty dc sc=>by
  rw[X,show i*2+2=(i+1)*2 from by omega]
  exact run_copy_row2 (P:=Try.prog) (W1.setRow w.heap.size Z1.toArray).drew _ _ ty 61 w.heap.size ((i+1)*2) _ dc ⟨g,i*2,none⟩ _ sc Z1.toArray 61 D (n-i) Try.underlying59 info61s aq zbd hDl
   (fun j u hj=>(cell_setRow_other W1 w.heap.size Z1.toArray _ (by rw[addr_at];exact Nat.ne_of_lt hgl)).trans (J _ _ (by rw[addr_at];exact hgl) (hsrcD j u hj))) (by rw[hDl,List.size_toArray,ag,hPOl];omega) ak
 have ba:(cap:Int)<(n:Int)+1:=by omega
 have Y:(0:Int)<=(i:Int)+1/\(i:Int)+1<=1000000000:=⟨by omega,by omega⟩
 have hwc:=(wraps2 Y.1 Y.2).1;have a3:G<=9223372036854775807:=hGm;have hci: ¬G=i+1:=by omega
 have an: ¬G=i:=by omega
 have a4: ¬cap=i:=by omega
 have htn:((i:Int)+1).toNat=i+1:=by omega
 have a7:(0:Int)<=(i:Int)+1:=by omega
 have a8:(i:Int)+1<=(n:Int)+1:=by omega
 have al:(i:Int)<=(n:Int):=by omega
 have HNN:=aK hnn;have HGM:=aK hGm;have mixed:Try.prog.follows Departure.mixedOrders=true:=by kernel_rfl
 clear Y hnn hGm hkk hcell hsrcD hsrcT U X I ah hPD aq hRl hOl hz hsz hby J
 go_enter Try.func47,Try.ntmps47
 go_upto_region 11 with(first
  |(at_builtin;refine Lib.wpList_append_run _ rfl _ _ _ _ rfl _ _ rfl rfl _ _ (hrz _) ?_)
  |(at_builtin;refine wpList_copy_runI _ rfl _ _ 59 59 rfl _ _ rfl rfl (hcpA _ _) ?_))
 go_region_law_o (refine step_copy_runI rfl _ _ 59 59 rfl _ _ zbf zbf (hcpB _ _ _) ?_)
 go_wp2
 go_ret
 have a2:((W1.setRow w.heap.size Z1.toArray).drew.setRow w.heap.size Z2.toArray).heap[w.heap.size]? =some (.cells Z2.toArray 61 (0,0)):=setRow_heap (W1.setRow w.heap.size Z1.toArray).drew w.heap.size Z1.toArray Z2.toArray 61 (0,0) (setRow_heap W1 w.heap.size ROW Z1.toArray 61 (0,0) ae);have hZ2l:Z2.toArray.size=G*2:=by rw[List.size_toArray,Z,hPOl]
 have hR:=own61' (base:=base) (xs:=insN i t xs) (hfresh _ (Nat.le_refl _)) hbase a2 (by rw[hFl];exact hGn) HGM.out hZ2l zb8;rw[hFl]at hR
 refine⟨_,rfl,hR,below_setRow (below_drew (below_setRow am hbase _)) hbase _,⟨ab.os,ab.tape,ab.output,?_,fun k hk hkg=>?_⟩,.inr ⟨w.heap.size,rfl,Nat.le_refl _⟩⟩
 ·exact Nat.le_trans ab.size zac
 ·exact(setRow_other _ _ _ _ (Nat.ne_of_lt hk)).trans ((setRow_other _ _ _ _ (Nat.ne_of_lt hk)).trans (af k hk))
section
variable {P:Program} {ops:Array Oper} {rest:List Oper} {o:Oper} {a:Act} {Q:Exit->Act->World->Prop}
theorem append_cut_cells{w0 W:World}(base:Nat)(hgd:o.guard=none)(s x:Operand)(t e:TypeId)(z:Value)(size bytes:Nat)
 (ho:o.op= .call { callee:= .builtin .append,args:= #[s,x],argTypes:= #[t,t] })
 (ht:P.underlying t=some (.slice e)) (hinfo:(P.info? e).map (fun i=>(i.zero,i.size,i.bytes))=some (some z,size,bytes)) (hz:z.cells.size=size) (L:0<size) (I:0<bytes)
 (A:Option Addr) (c:Nat) (n:Nat) (xs ys:List Value) (hs:a.eval s= .slice A n n) (hx:a.eval x= .slice (some ⟨W.heap.size,0,none⟩) 1 1) (hys:ys.length=size) (h1: ∀u∈ys,u.oneCell'=true)
 (HO:W.ownsRow base e size (.slice A n c) n xs) (HB:Below base w0 W) (hbase:base<=W.heap.size) (hl:(n+n / 4+200)*bytes<=140737488355328)
 (h: ∀v1 w1,w1.ownsRow base e size v1 (n+1) (xs++ys)->Below base w0 w1->W.grownBy w1 (Value.slice A n c).ownBlock->(v1.ownBlock=(Value.slice A n c).ownBlock∨ ∃b,v1.ownBlock=some b/\W.heap.size<=b)->wpList P ops Q rest (a.put o.dst v1) w1):
 wpList P ops Q (o::rest) a (W.alloc (.cells ys.toArray e)):=by
 have hll:(n+1)*bytes<=140737488355328:=Nat.le_trans (Nat.mul_le_mul_right _ zaa) hl;by_cases hc:c=n
 ·subst hc;exact print_append_cells base hgd s x t e z size bytes ho ht hinfo hz L I _ c xs ys hs hx hys h1 HO HB hbase hll h
 obtain⟨hxl,hor⟩:=HO;rcases hor with⟨hv,hn⟩|⟨g,cap,cur,hv,hbg,hg,hnc,hcm,hcs,htk⟩
 ·simp only[Value.slice.injEq]at hv;omega
 ·simp only[Value.slice.injEq]at hv;obtain⟨rfl,_,rfl⟩:=hv;obtain⟨i0,hi,hzz⟩:=Option.map_eq_some_iff.1 hinfo;simp only[Prod.mk.injEq]at hzz;obtain⟨O,J,U⟩:=hzz;have hgl:g<W.heap.size:=(Array.getElem?_eq_some_iff.1 hg).1;have X:n+1<=(n+1)*bytes:=Nat.le_mul_of_pos_right _ I;have hga:(W.alloc (.cells ys.toArray e)).heap[g]? =some (.cells cur e (0,0)):=(heap_alloc_old W _ hgl).trans hg
  have hrun:=run_append_grow (P:=P) (w:=W.alloc (.cells ys.toArray e)) t o.type e i0 z ht hi O ⟨g,0,none⟩ n n xs (by rw[J];exact hxl)
   (fun j v hj=>by
     rw[addr_at,Nat.zero_add,blk_cell hga,<-Array.getElem?_toList];rw[<-htk,List.getElem?_take]at hj
     split at hj
     ·exact hj
     ·cases hj)
   ⟨W.heap.size,0,none⟩ 1 1 ys (by rw[J,Nat.one_mul];exact hys)
   (fun j v hj=>by rw[addr_at,Nat.zero_add,blk_cell (blk_new W _)];simpa using hj)
   zaa zaa (by rw[U];exact growslice_fits_wide zaa (by
     refine Nat.le_trans (Nat.mul_le_mul_right bytes (show n+1+(n+1) / 4+192<=n+n / 4+200 by omega)) ?_;omega))
  have hge:=grownCap_ge (W.alloc (.cells ys.toArray e)) (n+1) n e;have D:grownCap (W.alloc (.cells ys.toArray e)) (n+1) n e<=maxLen:=grownCap_le_maxLen _ _ _ _ (by
   have:n+1<=(n+1)*bytes:=Nat.le_mul_of_pos_right _ I;unfold maxLen;omega)
  generalize grownCap (W.alloc (.cells ys.toArray e)) (n+1) n e=G at hrun hge D;refine Lib.wpList_append_run (W.alloc (.cells ys.toArray e)) hgd s x t t ho _ _ hs hx _ _ hrun (h _ _ ?_ ?_ ?_ (.inr ⟨_,rfl,by simp⟩))
  ·refine⟨by rw[List.length_append,hxl,hys,Nat.add_mul,Nat.one_mul],.inr ⟨_,G,_,rfl,?_,blk_new _ _,hge,D,?_,?_⟩⟩
   ·exact Nat.le_trans hbase zac
   ·rw[Array.size_append,Array.size_append,List.size_toArray,List.size_toArray,size_zeroCells,hxl,hys,hz,<-Nat.add_one_mul,<-Nat.add_mul]
    congr 1
    omega
   ·rw[show(n+1)*size=(xs++ys).length from by rw[List.length_append,hxl,hys,Nat.add_mul,Nat.one_mul]];simp only[Array.toList_append,<-List.append_assoc];rw[List.take_left' rfl]
  ·exact HB.trans ((below_alloc (below_drew (below_alloc (Below.refl _ _) _)) _:Below W.heap.size W _).mono hbase)
  ·exact⟨rfl,rfl,rfl,by simp;omega,fun k hk _=>(heap_alloc_old (W.alloc (.cells ys.toArray e)).drew _ (by show k<(W.alloc _).heap.size;simp;omega)).trans (heap_alloc_old W _ hk)⟩
theorem R_append_cut{α:Type}(d:Kd α){w0 W:World}(base:Nat)(hgd:o.guard=none)(s x:Operand)(t e:TypeId)(z:Value)(bytes:Nat)
 (ho:o.op= .call { callee:= .builtin .append,args:= #[s,x],argTypes:= #[t,t] })
 (ht:P.underlying t=some (.slice e)) (hinfo:(P.info? e).map (fun i=>(i.zero,i.size,i.bytes))=some (some z,d.sz,bytes)) (hz:z.cells.size=d.sz) (O:0<d.sz) (J:0<bytes)
 (A:Option Addr) (c:Nat) (xs:List α) (p:α) (cs:List Value) (ok okp:Nat->Prop) (hs:a.eval s= .slice A xs.length xs.length) (hx:a.eval x= .slice (some ⟨W.heap.size,0,none⟩) 1 1) (hp:d.M W base okp p cs) (hokp: ∀k,okp k->ok k/\some k≠(Value.slice A xs.length c).ownBlock) (hfresh: ∀k,W.heap.size<=k->ok k)
 (HO:d.R e W base ok (.slice A xs.length c) xs) (HB:Below base w0 W) (hbase:base<=W.heap.size) (hl:(xs.length+xs.length / 4+200)*bytes<=140737488355328)
 (h: ∀v1 w1,d.R e w1 base ok v1 (xs++ [p])->Below base w0 w1->W.grownBy w1 (Value.slice A xs.length c).ownBlock->(v1.ownBlock=(Value.slice A xs.length c).ownBlock∨ ∃b,v1.ownBlock=some b/\W.heap.size<=b)->wpList P ops Q rest (a.put o.dst v1) w1):
 wpList P ops Q (o::rest) a (W.alloc (.cells cs.toArray e)):=by
 obtain⟨h0,inner,hown,hr⟩:=HO;refine append_cut_cells base hgd s x t e z d.sz bytes ho ht hinfo hz O J A c xs.length inner cs hs hx (d.K_len (d.K_of_M hp)) (d.K_one (d.K_of_M hp)) hown HB hbase hl ?_;intro v1 w1 G L I D;exact h v1 w1 (Kd.R_appended h0 hr hp hokp hfresh G I D) L I D
theorem S_append_cut{α:Type}(d:Kd α){w0 W:World}(base:Nat)(hgd:o.guard=none)(s x:Operand)(t e:TypeId)(z:Value)(bytes:Nat)
 (ho:o.op= .call { callee:= .builtin .append,args:= #[s,x],argTypes:= #[t,t] })
 (ht:P.underlying t=some (.slice e)) (hinfo:(P.info? e).map (fun i=>(i.zero,i.size,i.bytes))=some (some z,d.sz,bytes)) (hz:z.cells.size=d.sz) (G:0<d.sz) (D:0<bytes)
 (A:Option Addr) (c:Nat) (xs:List α) (p:α) (cs:List Value) (ok okp:Nat->Prop) (hs:a.eval s= .slice A xs.length xs.length) (hx:a.eval x= .slice (some ⟨W.heap.size,0,none⟩) 1 1) (hp:d.M W base okp p cs) (hokp: ∀k,okp k->ok k/\some k≠(Value.slice A xs.length c).ownBlock) (hfresh: ∀k,W.heap.size<=k->ok k)
 (HO:Kd.S d e W base (fun k=>ok k/\ ¬okp k) (.slice A xs.length c) xs) (HB:Below base w0 W) (hbase:base<=W.heap.size) (hl:(xs.length+xs.length / 4+200)*bytes<=140737488355328)
 (h: ∀v1 w1,Kd.S d e w1 base ok v1 (xs++ [p])->Below base w0 w1->W.grownBy w1 (Value.slice A xs.length c).ownBlock->(v1.ownBlock=(Value.slice A xs.length c).ownBlock∨ ∃b,v1.ownBlock=some b/\W.heap.size<=b)->wpList P ops Q rest (a.put o.dst v1) w1):
 wpList P ops Q (o::rest) a (W.alloc (.cells cs.toArray e)):=by
 obtain⟨f,hf,hR⟩:=Kd.S_tag HO xs.length okp (fun _ hk h2=>h2.2 hk);have hzl:xs.zipIdx.length=xs.length:=List.length_zipIdx;refine R_append_cut (Kd.tag f d) base hgd s x t e z bytes ho ht hinfo hz G D A c xs.zipIdx (p,xs.length) cs ok okp (by rw[hzl];exact hs) hx (d.M_mono (fun k hk=>⟨hk,hf k hk⟩) hp) (by rw[hzl];exact hokp) hfresh (by rw[hzl];exact Kd.R_mono hR (fun _ hk=>hk.1)) HB hbase (by rw[hzl];exact hl) ?_;intro v1 w1 hr;rw[<-Kd.zip_snoc,hzl]at*
 exact h v1 w1 ⟨f,hr⟩
end
theorem slices_Insert.callsI(base:Nat)(ok:Nat->Prop)(w0:World)(v:Value)(xs:List S61)(iz:Int)(i:Nat)(t:S61)(gv:Nat)(w:World)(hz:iz=(i:Int))(HO:Kd.R k61 61 w base ok v xs)(hv:w.heap[gv]? =some (.cells #[.int .i64 t.f0,.int .u8 t.f1] 61 (0,0)))(hne:some gv≠v.ownBlock)(hi:i<=xs.length)(hl:xs.length<=1000000)(HB:Below base w0 w)(hbase:base<=w.heap.size)(hfresh: ∀k,w.heap.size<=k->ok k):
 Calls Try.prog 47 #[v,.int .i64 iz,.slice (some ⟨gv,0,none⟩) 1 1] w fun e w'=> ∃v1,e= .returned v1/\Kd.R k61 61 w' base ok v1 (insN i t xs)/\Below base w0 w'/\w.grownBy w' v.ownBlock/\(v1.ownBlock=v.ownBlock∨ ∃b,v1.ownBlock=some b/\w.heap.size<=b):=by
 subst hz;exact slices_Insert.calls base ok w0 v xs i t gv w HO hv hne hi hl HB hbase hfresh
theorem cut3{P:Program}(t e:TypeId)(kh km:IntKind){i:TypeInfo}(ht:P.underlying t=some (.slice e))(hi:P.info? e=some i)(A:Option Addr)(n c:Nat)(j:Int)(hj:j=(n:Int))(hc:n<=c):
 ∀W:World,(Instr.slice t (.slice A n c) none (some (.int kh j)) (some (.int km j))).run P W= .ok (.slice A n n) W:=by
 intro W;subst hj;have hel:P.elem t=e:=by simp[Program.elem,ht]
 have hu:P.underlying t=some (.slice (P.elem t)):=by rw[hel];exact ht
 have ha:(A.map fun x=>x.add 0)=A:=by cases A<;>simp[Addr.add]
 rw[run_slice_hm W t A n c hu kh km n n zaa zaa zaa,hel];simp[sizeOf,typeInfo,hi,sliced,Result.andThen,ha]
theorem nR{w:World}{base g:Nat}{ok:Nat->Prop}{v:Value}{xs:List Int}(h:Kd.R (Kd.int .i64) 3 w base ok v xs)(hne:some g≠v.ownBlock):Kd.R (Kd.int .i64) 3 w base (fun k=>ok k/\k≠g) v xs:=
 ⟨fun k hk=>⟨h.1 k hk,fun e=>hne (by rw[<-e];exact hk.symm)⟩,h.2.imp_ (fun _ _ hp=>hp)⟩
theorem neR{w:World}{base g:Nat}{ok:Nat->Prop}{v:Value}{xs:List Int}(h:Kd.R (Kd.int .i64) 3 w base ok v xs)(hg:g=w.heap.size):some g≠v.ownBlock:=fun e=>by
 have:=Kd.R_lt h g e.symm;omega
theorem cell2o{w:World}{g t:Nat}{a:Value}(h:Aside0 (w.heap[g]? =some (.cells #[a] t (0,0)))):w.cell? ⟨g,0,none⟩=some a/\True/\w.frozen? ⟨g,0,none⟩=false/\True:=⟨(blk_cell h.out 0).trans rfl,trivial,blk_frozen h.out 0,trivial⟩
theorem nwR{W:World}{v v1:Value}{g:Nat}(h: ∀k_,v.ownBlock=some k_->g<k_)(hl:g<W.heap.size)(hat:v1.ownBlock=v.ownBlock∨ ∃b,v1.ownBlock=some b/\W.heap.size<=b): ∀k_,v1.ownBlock=some k_->g<k_:=fun k hk=>by
 rcases hat with e|⟨b,e,hb⟩
 ·exact h k (by rw[<-e];exact hk)
 ·rw[e]at hk
  injection hk with hk;omega
mutual
def share_taken.l0:Nat->Int->List (List (S61))->Int->Int->List Int->List (List (S61))->List Int->Int->Int->Int->Int->List Int->List (List (S61))->Int->Int->Option (List Int×(List (List (S61)))×List Int)
 |0,_,_,_,_,_,_,_,_,_,_,_,_,_,_,_=>none
 |k+1,x2,ae,af,ac,aa,ab,G,J,L,O,U,X,Y,I,Z=>if ac<af then(if 0<=ac then(if ac<(ae.length:Int)then((share_without.f (rd_L5 ae ac) J L O U x2).bind fun D=>(if D.2.2=true then(share_taken.j1 k x2 ac D.1 D.2.1 D.2.2 ae af ac (decide (I<0)) aa ab G J L O U X Y I Z)else(share_taken.j1 k x2 ac D.1 D.2.1 D.2.2 ae af ac false aa ab G J L O U X Y I Z)))else(none))else(none))else(share_taken.l1 k G (G.length:Int) 0 X Y ([]:List Int) I Z)
def share_taken.j1:Nat->Int->Int->List (S61)->Int->Bool->List (List (S61))->Int->Int->Bool->List Int->List (List (S61))->List Int->Int->Int->Int->Int->List Int->List (List (S61))->Int->Int->Option (List Int×(List (List (S61)))×List Int)
 |0,_,_,_,_,_,_,_,_,_,_,_,_,_,_,_,_,_,_,_,_=>none
 |k+1,x2,x9,ab,ac,ae,af,ag,ah,ai,G,O,U,I,J,L,X,Y,D,aa,Z=>if ai=true then(if(D.length<1000000/\x9=(D.length:Int))then(share_taken.j2 k x2 ab ac ae af ag ah G O U I J L X Y (D++ [(([(⟨I,1⟩:S61),(⟨J,L⟩:S61)]:List (S61)))]) (wrap64 ((G.length:Int)+x9)) Z)else(none))else(share_taken.j2 k x2 ab ac ae af ag ah G O U I J L X Y D aa Z)
def share_taken.j2:Nat->Int->List (S61)->Int->Bool->List (List (S61))->Int->Int->List Int->List (List (S61))->List Int->Int->Int->Int->Int->List Int->List (List (S61))->Int->Int->Option (List Int×(List (List (S61)))×List Int)
 |0,_,_,_,_,_,_,_,_,_,_,_,_,_,_,_,_,_,_=>none
 |k+1,x2,ae,af,ag,ah,ai,aj,G,I,J,L,O,U,X,Y,Z,D,aa=>if D>=0 then((share_shifted.f k ae D).bind fun ab=>(share_taken.j3 k x2 ab af ag ah ai aj G I J L O U X Y Z D aa))else((api_Term_42.f ae).bind fun ac=>(share_taken.j3 k x2 ac af ag ah ai aj G I J L O U X Y Z D aa))
def share_taken.j3:Nat->Int->List (S61)->Int->Bool->List (List (S61))->Int->Int->List Int->List (List (S61))->List Int->Int->Int->Int->Int->List Int->List (List (S61))->Int->Int->Option (List Int×(List (List (S61)))×List Int)
 |0,_,_,_,_,_,_,_,_,_,_,_,_,_,_,_,_,_,_=>none
 |k+1,x2,ab,ah,ai,ae,af,ag,I,J,L,O,U,X,Y,Z,D,G,aa=>if ai=true then((api_Term_45.f ab G).bind fun ac=>(if ac<0 then(if ab.length<1000001 then(if D.length<5864062014805 then(share_taken.l0 k x2 ae af (wrap64 (ag+1)) I J L O U X Y Z (D++ [(insN ab.length (⟨G,ah⟩:S61) ab)]) G aa)else(none))else(none))else(if(ab.length<1000001/\ac.toNat<=ab.length)then(if D.length<5864062014805 then(share_taken.l0 k x2 ae af (wrap64 (ag+1)) I J L O U X Y Z (D++ [(insN ac.toNat (⟨G,ah⟩:S61) ab)]) G aa)else(none))else(none))))else(if D.length<5864062014805 then(share_taken.l0 k x2 ae af (wrap64 (ag+1)) I J L O U X Y Z (D++ [ab]) G aa)else(none))
def share_taken.l1:Nat->List Int->Int->Int->List Int->List (List (S61))->List Int->Int->Int->Option (List Int×(List (List (S61)))×List Int)
 |0,_,_,_,_,_,_,_,_=>none
 |k+1,U,X,O,G,I,D,J,L=>if O<X then(if 0<=O then(if O<(U.length:Int)then(if(rd U O)>=J then(if D.length<17592186044416 then(share_taken.l1 k U X (wrap64 (O+1)) G I (D++ [wrap64 ((rd U O)+1)]) J L)else(none))else(if D.length<17592186044416 then(share_taken.l1 k U X (wrap64 (O+1)) G I (D++ [rd U O]) J L)else(none)))else(none))else(none))else(some (G,I,D))
end
def share_taken.f(k:Nat)(G:List Int)(D:List (List (S61)))(U:List Int)(I:Int)(J:Int)(L:Int)(O:Int)(a2:Int):Option (List Int×(List (List (S61)))×List Int):=(slices_Clone_int_int.f G).bind fun X=>(share_taken.l0 k a2 D (D.length:Int) 0 G D U I J L O X ([]:List (List (S61))) (-1) 0)
theorem share_taken.mono_l: ∀k,(∀y0 y1 y2 y3 y4 y5 y6 y7 y8 y9 D G I J L,LeO (share_taken.l0 k y0 y1 y2 y3 y4 y5 y6 y7 y8 y9 D G I J L) (share_taken.l0 (k+1) y0 y1 y2 y3 y4 y5 y6 y7 y8 y9 D G I J L))/\(∀y0 y1 y2 y3 y4 y5 y6 y7 y8 y9 D G I J L O U X ae af,LeO (share_taken.j1 k y0 y1 y2 y3 y4 y5 y6 y7 y8 y9 D G I J L O U X ae af) (share_taken.j1 (k+1) y0 y1 y2 y3 y4 y5 y6 y7 y8 y9 D G I J L O U X ae af))/\(∀y0 y1 y2 y3 y4 y5 y6 y7 y8 y9 D G I J L O U X,LeO (share_taken.j2 k y0 y1 y2 y3 y4 y5 y6 y7 y8 y9 D G I J L O U X) (share_taken.j2 (k+1) y0 y1 y2 y3 y4 y5 y6 y7 y8 y9 D G I J L O U X))/\(∀y0 y1 y2 y3 y4 y5 y6 y7 y8 y9 D G I J L O U X,LeO (share_taken.j3 k y0 y1 y2 y3 y4 y5 y6 y7 y8 y9 D G I J L O U X) (share_taken.j3 (k+1) y0 y1 y2 y3 y4 y5 y6 y7 y8 y9 D G I J L O U X))/\(∀y0 y1 y2 y3 y4 y5 y6 y7,LeO (share_taken.l1 k y0 y1 y2 y3 y4 y5 y6 y7) (share_taken.l1 (k+1) y0 y1 y2 y3 y4 y5 y6 y7))
 |0=>⟨fun _ _ _ _ _ _ _ _ _ _ _ _ _ _ _ r h=>by simp[share_taken.l0]at h,fun _ _ _ _ _ _ _ _ _ _ _ _ _ _ _ _ _ _ _ _ r h=>by simp[share_taken.j1]at h,fun _ _ _ _ _ _ _ _ _ _ _ _ _ _ _ _ _ _ r h=>by simp[share_taken.j2]at h,fun _ _ _ _ _ _ _ _ _ _ _ _ _ _ _ _ _ _ r h=>by simp[share_taken.j3]at h,fun _ _ _ _ _ _ _ _ r h=>by simp[share_taken.l1]at h⟩
 |k+1=>by
  obtain⟨Y,Z,aa,ab,ac⟩:=share_taken.mono_l k;refine⟨?_,?_,?_,?_,?_⟩;all_goals(intros;first|unfold share_taken.l0|unfold share_taken.j1|unfold share_taken.j2|unfold share_taken.j3|unfold share_taken.l1)
  all_goals repeat' first|(with_reducible exact Y _ _ _ _ _ _ _ _ _ _ _ _ _ _ _)|(with_reducible exact Z _ _ _ _ _ _ _ _ _ _ _ _ _ _ _ _ _ _ _ _)|(with_reducible exact aa _ _ _ _ _ _ _ _ _ _ _ _ _ _ _ _ _ _)|(with_reducible exact ab _ _ _ _ _ _ _ _ _ _ _ _ _ _ _ _ _ _)|(with_reducible exact ac _ _ _ _ _ _ _ _)|(with_reducible exact share_shifted.mono _ _ _)|(with_reducible exact LeO.refl _)|(with_reducible exact LeO.none _)|(with_reducible refine LeO.ite ?_ ?_)|(with_reducible refine LeO.bind ?_ (fun _=>?_))|exact Y _ _ _ _ _ _ _ _ _ _ _ _ _ _ _|exact Z _ _ _ _ _ _ _ _ _ _ _ _ _ _ _ _ _ _ _ _|exact aa _ _ _ _ _ _ _ _ _ _ _ _ _ _ _ _ _ _|exact ab _ _ _ _ _ _ _ _ _ _ _ _ _ _ _ _ _ _|exact ac _ _ _ _ _ _ _ _|exact share_shifted.mono _ _ _|exact LeO.none _|refine LeO.ite ?_ ?_|refine LeO.bind ?_ (fun _=>?_)
theorem share_taken.mono: ∀a0 a1 a2 a3 a4 a5 a6 a7 k,LeO (share_taken.f k a0 a1 a2 a3 a4 a5 a6 a7) (share_taken.f (k+1) a0 a1 a2 a3 a4 a5 a6 a7):=by
 intro a0 a1 a2 a3 a4 a5 a6 a7 k;obtain⟨D,G,I,J,L⟩:=share_taken.mono_l k;unfold share_taken.f
 with_reducible repeat' first|exact D _ _ _ _ _ _ _ _ _ _ _ _ _ _ _|exact G _ _ _ _ _ _ _ _ _ _ _ _ _ _ _ _ _ _ _ _|exact I _ _ _ _ _ _ _ _ _ _ _ _ _ _ _ _ _ _|exact J _ _ _ _ _ _ _ _ _ _ _ _ _ _ _ _ _ _|exact L _ _ _ _ _ _ _ _|exact share_shifted.mono _ _ _|exact LeO.refl _|exact LeO.none _|refine LeO.ite ?_ ?_|refine LeO.bind ?_ (fun _=>?_)
theorem share_taken.calls(k:Nat)(a9:Option Addr)(ba:Nat)(al:List Int)(cb:Option Addr)(bb:Nat)(Z:List (List (S61)))(bd:Option Addr)(bc:Nat)(ae:List Int)(ap:Int)(aq:Int)(ar:Int)(ax:Int)(gt:Nat)(r1:List Int)(r2:List (List (S61)))(r3:List Int)(w:World)(kc:Kd.C (Kd.int .i64) w a9 al.length al)(jy:al.length<=ba)(kd:Kd.C (Kd.slice 61 k61) w cb Z.length Z)(jz:Z.length<=bb)(ke:Kd.C (Kd.int .i64) w bd ae.length ae)(j0:ae.length<=bc)(hgt:w.heap[gt]? =some (.cells (invC 256) 54 (0,0)))(h:share_taken.f k al Z ae ap aq ar ax 0=some (r1,r2,r3)):
 Calls Try.prog 31 #[.agg #[.slice a9 al.length ba,.slice cb Z.length bb,.slice bd ae.length bc],.agg #[.int .i64 ap,.int .i64 aq,.int .u8 ar,.int .i64 ax],.pointer (some ⟨gt,0,none⟩)] w fun e w'=> ∃v0_ v1_ v2_:Value,e= .returned (.agg #[v0_,v1_,v2_])/\Kd.R (Kd.int .i64) 3 w' w.heap.size (fun k_=>some k_≠(v2_:Value).ownBlock) v0_ r1/\Kd.S (Kd.slice 61 k61) 59 w' w.heap.size (fun _=>True) v1_ r2/\Kd.R (Kd.int .i64) 3 w' w.heap.size (fun k_=>some k_≠(v0_:Value).ownBlock) v2_ r3/\Below w.heap.size w w':=by
 have uv:=Try.underlying25;have uw:=Try.underlying27;have ux:=Try.underlying61;have le:=aK kc;have lb:=aK jy;clear kc jy;have lf:=aK kd;have q4:=aK jz;clear kd jz;have jl:=aK ke;have q5:=aK j0;clear ke j0;have HB:=aK (Below.refl w.heap.size w);have HGT:=aK hgt;clear hgt;have H:((slices_Clone_int_int.f al).bind fun Y=>(share_taken.l0 k 0 Z (Z.length:Int) 0 al Z ae ap aq ar ax Y ([]:List (List (S61))) (-1) 0))=some (r1,r2,r3):=h;clear h;obtain⟨Y,A4,H⟩:=bindO H
 (try dsimp only at H)
 have H':=aK H;clear H
 go_enter Try.func31,Try.ntmps31
 go_wp2_with (first|((with_reducible refine gD 3 rfl ?_);refine bE 3 #[.slice a9 al.length ba,.slice cb Z.length bb,.slice bd ae.length bc] 25 ?_;intro a1 hg w5 hbox hb;have G:=aK (hbox);have k6:=hbS HB hg;have qy:=hbS HB hg;replace HB:=hbB HB hb;clear hb hbox hg)|((with_reducible refine gD 4 rfl ?_);refine bE 4 #[.int .i64 ap,.int .i64 aq,.int .u8 ar,.int .i64 ax] 27 ?_;intro a2 hg w6 hbox hb;have L:=aK (hbox);have k7:=hbS HB hg;have qz:=hbS HB hg;replace HB:=hbB HB hb;have bh:=neL G hg;have bj:=neG G hg;replace G:=bkB G hb;clear hb hbox hg)|((with_reducible refine gD 6 rfl ?_);refine bE 6 #[.slice none 0 0,.slice none 0 0,.slice none 0 0] 25 ?_;intro an hg w7 hbox hb;have O:=aK (hbox);have k8:=hbS HB hg;have q0:=hbS HB hg;replace HB:=hbB HB hb;have bi:=neL G hg;have bk:=neG G hg;replace G:=bkB G hb;have ci:=neL L hg;have cj:=neG L hg;replace L:=bkB L hb;clear hb hbox hg;have uq:=bh.out;have us:=bj.out;have ur:=bi.out;have ut:=bk.out;obtain⟨bl,bm,bn,bx,bz,b0⟩:=cell3 G)|((with_reducible refine gC 41 rfl ?_);refine cG (some 20) Try.func41 #[.slice a9 al.length ba] ?_;(with_reducible refine(slices_Clone_int_int.calls _ _ al Y _ ?side1 ?side2 A4.out).mono ?_);(case side1=>exact kcB le HB);(case side2=>exact lb.out);rintro e v4 ⟨uy,rfl,ck,hb⟩;refine⟨_,rfl,?_⟩;have ch:=aK (Kd.R_lower ck (below_size (hbA HB.out)));replace G:=bkB G hb;replace L:=bkB L hb;replace O:=bkB O hb;replace HB:=hbB HB hb;(try clear hb);(try clear ck);obtain⟨aj,ak,oc⟩:=Kd.R_slice ch.out;subst oc)|((with_reducible refine gD 7 rfl ?_);refine bE 7 #[.slice none 0 0,.slice none 0 0,.slice none 0 0] 25 ?_;intro ah hg v5 hbox hb;replace ch:=kdB ch hb;have D:=aK (hbox);have k9:=hbS HB hg;have q1:=hbS HB hg;replace HB:=hbB HB hb;have aa:=neL G hg;have a6:=neG G hg;replace G:=bkB G hb;have ab:=neL L hg;have a7:=neG L hg;replace L:=bkB L hb;have ac:=neL O hg;have a8:=neG O hg;replace O:=bkB O hb;clear hb hbox hg;have rg:=a6.out;have sp:=aa.out;have rh:=a7.out;have sq:=ab.out;have ri:=a8.out;have sr:=ac.out;obtain⟨bo,bp,bq,b1,b2,b3⟩:=cell3 D)|((with_reducible refine gD 8 rfl ?_);refine bE 8 #[.int .i64 0] 3 ?_;intro U hg v6 hbox hb;have NEO:=aK (neR ch.out (hg.trans zac));replace ch:=aK (Kd.R_below (by(with_reducible repeat(first|apply Kd.R_alloc|apply Kd.R_drewN|apply Kd.R_drew));exact(zF ch.out D.out  (.slice aj Y.length ak)  (.slice none 0 0)  (.slice none 0 0))) hb);have I:=aK (hbox);have la:=hbS HB hg;have q3:=hbS HB hg;replace HB:=hbB HB hb;have ay:=aK ((by rw[hg];exact Nat.ne_of_lt (blk_lt (g:=a1) (o:= .cells #[.slice a9 al.length ba,.slice cb Z.length bb,.slice bd ae.length bc] 25 (0,0)) zbo):a1≠U));have a3:=aK ((by rw[hg];exact Nat.ne_of_gt (blk_lt (g:=a1) (o:= .cells #[.slice a9 al.length ba,.slice cb Z.length bb,.slice bd ae.length bc] 25 (0,0)) zbo):U≠a1));replace G:=aK (blk_below (g:=a1) (o:= .cells #[.slice a9 al.length ba,.slice cb Z.length bb,.slice bd ae.length bc] 25 (0,0)) zbo hb);have az:=aK ((by rw[hg];exact Nat.ne_of_lt (blk_lt (g:=a2) (o:= .cells #[.int .i64 ap,.int .i64 aq,.int .u8 ar,.int .i64 ax] 27 (0,0)) zbn):a2≠U));have a4:=aK ((by rw[hg];exact Nat.ne_of_gt (blk_lt (g:=a2) (o:= .cells #[.int .i64 ap,.int .i64 aq,.int .u8 ar,.int .i64 ax] 27 (0,0)) zbn):U≠a2));replace L:=aK (blk_below (g:=a2) (o:= .cells #[.int .i64 ap,.int .i64 aq,.int .u8 ar,.int .i64 ax] 27 (0,0)) zbn hb);have a0:=aK ((by rw[hg];exact Nat.ne_of_lt (blk_lt (g:=an) (o:= .cells #[.slice none 0 0,.slice none 0 0,.slice none 0 0] 25 (0,0)) zbm):an≠U));have a5:=aK ((by rw[hg];exact Nat.ne_of_gt (blk_lt (g:=an) (o:= .cells #[.slice none 0 0,.slice none 0 0,.slice none 0 0] 25 (0,0)) zbm):U≠an));replace O:=aK (blk_below (g:=an) (o:= .cells #[.slice none 0 0,.slice none 0 0,.slice none 0 0] 25 (0,0)) zbm hb);have av:=aK ((by rw[hg];exact Nat.ne_of_lt (blk_lt (g:=ah) (o:= .cells #[.slice aj Y.length ak,.slice none 0 0,.slice none 0 0] 25 (0,0)) zbk):ah≠U));have am:=aK ((by rw[hg];exact Nat.ne_of_gt (blk_lt (g:=ah) (o:= .cells #[.slice aj Y.length ak,.slice none 0 0,.slice none 0 0] 25 (0,0)) zbk):U≠ah));replace D:=aK (blk_below (g:=ah) (o:= .cells #[.slice aj Y.length ak,.slice none 0 0,.slice none 0 0] 25 (0,0)) zbk hb);clear hb hbox hg;have rj:=a3.out;have ss:=ay.out;have rk:=a4.out;have st:=az.out;have rl:=a5.out;have su:=a0.out;have rm:=am.out;have sv:=av.out;obtain⟨br,bs,b4,b5⟩:=cell2o I;obtain⟨bu,bv,bw,b6,b7,b8⟩:=cell3 G))
 go_loopg [25] k (fun kq t7 w'=> ∃(af:Int) (X:List (List (S61))) (ai:Int) (u251001:Value),t7= .int .i64 af/\Aside0 (share_taken.l0 kq 0 Z (Z.length:Int) af al Z ae ap aq ar ax Y X ai 0=some (r1,r2,r3))/\Aside0 (kq<=k)/\Aside0 (Kd.R (Kd.int .i64) 3 w' w.heap.size (fun _=>True) (.slice aj Y.length ak) Y)/\Aside0 (Kd.S (Kd.slice 61 k61) 59 w' w.heap.size (fun k_=>k_≠U) u251001 X)/\Aside0 (w'.heap[a1]? =some (.cells #[(.slice a9 al.length ba),(.slice cb Z.length bb),(.slice bd ae.length bc)] 25 (0,0)))/\Aside0 (w'.heap[a2]? =some (.cells #[.int .i64 ap,.int .i64 aq,.int .u8 ar,.int .i64 ax] 27 (0,0)))/\Aside0 (w'.heap[an]? =some (.cells #[(.slice none 0 0),(.slice none 0 0),(.slice none 0 0)] 25 (0,0)))/\Aside0 (w'.heap[ah]? =some (.cells #[(.slice aj Y.length ak),u251001,(.slice none 0 0)] 25 (0,0)))/\Aside0 (w'.heap[U]? =some (.cells #[.int .i64 ai] 3 (0,0)))/\Aside0 (Below w.heap.size w w'))
 case atStart=>exact⟨(0),(([]:List (List (S61)))),((-1)),(.slice none 0 0),rsE,H',⟨Nat.le_refl _⟩,⟨by(with_reducible repeat(first|apply Kd.R_alloc|apply Kd.R_drewN|apply Kd.R_drew));exact Kd.R_mono (Kd.R_far (p:=⟨U,0,none⟩) (nR ch.out NEO.out) (fun _ hk=>hk.2) (.int .i64 (-1))) (fun _ hk=>trivial)⟩,⟨by first|exact Kd.S_nil _ _ _ _ _|exact Kd.N_nil _ _ _ _ _|exact Kd.V_nil _ _ _ _ _|exact Kd.Q_nil _ _ _ _ _|exact Kd.R_nil _ _ _ _ _⟩,⟨by refine bkR ?_;refine blk_far ?_ ay.out _;refine bkR ?_;exact G.out⟩,⟨by refine bkR ?_;refine blk_far ?_ az.out _;refine bkR ?_;exact L.out⟩,⟨by refine bkR ?_;refine blk_far ?_ a0.out _;refine bkR ?_;exact O.out⟩,⟨by refine bkR ?_;refine blk_far ?_ av.out _;refine bkR ?_;exact D.out⟩,⟨by refine bkR ?_;refine blk_put (cs:= #[.int .i64 0]) ?_ 0 _ rfl;refine bkR ?_;exact I.out⟩,⟨hbA HB.out⟩⟩
 case round=>
  clear H'
  (try clear c1);(try clear c2);(try clear p2);(try clear c3);(try clear c4);(try clear c8);(try clear c9);(try clear kp);(try clear kr);(try clear ks);(try clear kt);(try clear ku);(try clear kv);(try clear kw);(try clear bl bm bn bx bz b0);(try clear bo bp bq b1 b2 b3);(try clear br bs b4 b5);(try clear bu bv bw b6 b7 b8)
  obtain⟨af,X,ai,u251001,rfl,HA,ca,HO_251000,HO_251001,G,L,O,D,I,HB⟩:=hrel
  cases gk with
  |zero=>exact absurd HA.out (by simp[share_taken.l0])
  |succ k1=>
   have H:=HA.out;clear HA;simp only[share_taken.l0]at H;by_cases ep:af<(Z.length:Int)
   case neg=>
    rw[if_neg ep]at H
    have c25b0:decide (af<(Z.length:Int))=false:=decide_eq_false ep;clear ep;have H':=aK H;clear H;have o1:=bh.out;have p4:=bj.out;have o2:=bi.out;have p5:=bk.out;have o3:=aa.out;have p7:=a6.out;have o4:=ay.out;have p8:=a3.out;obtain⟨g5,g6,g7,iz,i1,i2⟩:=cell3 G;go_wp2
    go_loopg [98] k1 (fun kq t9 w'=> ∃(au:Int) (aw:List Int) (u251002:Value),t9= .int .i64 au/\Aside0 (share_taken.l1 kq ae (ae.length:Int) au Y X aw ai 0=some (r1,r2,r3))/\Aside0 (kq<=k1)/\Aside0 (Kd.R (Kd.int .i64) 3 w' w.heap.size (fun k_=>some k_≠(u251002:Value).ownBlock) (.slice aj Y.length ak) Y)/\Aside0 (Kd.S (Kd.slice 61 k61) 59 w' w.heap.size (fun k_=>k_≠U) u251001 X)/\Aside0 (Kd.R (Kd.int .i64) 3 w' w.heap.size (fun k_=>some k_≠((.slice aj Y.length ak):Value).ownBlock) u251002 aw)/\Aside0 (w'.heap[a1]? =some (.cells #[(.slice a9 al.length ba),(.slice cb Z.length bb),(.slice bd ae.length bc)] 25 (0,0)))/\Aside0 (w'.heap[a2]? =some (.cells #[.int .i64 ap,.int .i64 aq,.int .u8 ar,.int .i64 ax] 27 (0,0)))/\Aside0 (w'.heap[an]? =some (.cells #[(.slice none 0 0),(.slice none 0 0),(.slice none 0 0)] 25 (0,0)))/\Aside0 (w'.heap[ah]? =some (.cells #[(.slice aj Y.length ak),u251001,u251002] 25 (0,0)))/\Aside0 (w'.heap[U]? =some (.cells #[.int .i64 ai] 3 (0,0)))/\Aside0 (Below w.heap.size w w')/\Aside0 (∀k_,(u251002:Value).ownBlock=some k_->U<k_))
    case atStart=>exact⟨(0),(([]:List Int)),(.slice none 0 0),rsE,H',⟨Nat.le_refl _⟩,⟨by(with_reducible repeat(first|apply Kd.R_alloc|apply Kd.R_drewN|apply Kd.R_drew));exact Kd.R_mono HO_251000.out (fun _ hk=>zbp)⟩,⟨by(with_reducible repeat(first|apply Kd.S_alloc|apply Kd.S_drewN|apply Kd.S_drew));exact HO_251001.out⟩,⟨nilE⟩,⟨bkA G.out⟩,⟨bkA L.out⟩,⟨bkA O.out⟩,⟨bkA D.out⟩,⟨bkA I.out⟩,⟨hbA HB.out⟩,⟨fun k_ hk_=>by simp[Value.ownBlock]at hk_⟩⟩
    case round=>
     clear H'
     (try clear c1);(try clear c2);(try clear p2 p2);(try clear q2 q2);(try clear mi);(try clear c3);(try clear c4);(try clear c5);(try clear c6);(try clear p6 p6);(try clear c7);(try clear c8);(try clear c9);(try clear c10);(try clear vr);(try clear vt);(try clear vu);(try clear kp);(try clear kr);(try clear ks);(try clear kt);(try clear ku);(try clear kv);(try clear kw);(try clear ep);(try clear c25b0);(try clear p25 p25);(try clear i3 i3);(try clear kf);(try clear fa);(try clear c26b0);(try clear fb);(try clear c27b0);(try clear lv);(try clear lw);(try clear lx);(try clear ly);(try clear fc);(try clear lz);(try clear l2);(try clear l3);(try clear l4);(try clear l5);(try clear q6);(try clear f1);(try clear f2);(try clear nz);(try clear n0);(try clear n1);(try clear n2);(try clear n3);(try clear n4);(try clear n5);(try clear n6);(try clear n7);(try clear n8);(try clear p64 p64);(try clear q7);(try clear q8);(try clear q9);(try clear ra);(try clear fd);(try clear c71b0);(try clear rb);(try clear rc);(try clear re);(try clear rf);(try clear jp);(try clear f3);(try clear c85b0);(try clear jq);(try clear jr);(try clear vv);(try clear vw);(try clear vx);(try clear vy);(try clear vz);(try clear v0);(try clear v2);(try clear e7);(try clear e8);(try clear ua);(try clear ub);(try clear uc);(try clear ud);(try clear ue);(try clear uf);(try clear ug);(try clear e9);(try clear uh);(try clear ui);(try clear uj);(try clear uk);(try clear ul);(try clear um);(try clear un);(try clear uo);(try clear gg gh gi g8 g9 ia);(try clear gj gl gm ib ic ie);(try clear bl bm bn bx bz b0);(try clear gn gp ig ii);(try clear gq gr ij ik);(try clear gs gu gv il im io);(try clear gw gx gy ip iq ir);(try clear gz g0 g1 it iu iv);(try clear g2 g3 g4 iw ix iy);(try clear g5 g6 g7 iz i1 i2);(try clear bo bp bq b1 b2 b3);(try clear br bs b4 b5);(try clear bu bv bw b6 b7 b8);(try clear cl cm cn co cr ct cu cv);(try clear cp cq cw cx);(try clear de df dg dv dw dx);(try clear dh di dy dz);(try clear dj dk dl d0 d1 d2);(try clear dm dn dp dq d3 d4 d5 d6);(try clear dr dt du d7 d8 d9);(try clear fe ff fi fj);(try clear fg fh fk fl);(try clear j4 j5 j8 j9);(try clear j6 j7 ka kb);(try clear bf);(try clear el);(try clear en)
     obtain⟨au,aw,u251002,rfl,HA,kj,HO_251000,HO_251001,HO_251002,G,L,O,D,I,HB,HNW⟩:=hrel
     cases gk with
     |zero=>exact absurd HA.out (by simp[share_taken.l1])
     |succ k2=>
      have H:=HA.out;clear HA;simp only[share_taken.l1]at H;by_cases es:au<(ae.length:Int)
      case neg=>
       rw[if_neg es]at H
       have c139b0:decide (au<(ae.length:Int))=false:=decide_eq_false es;clear es;obtain⟨rfl,rfl,rfl⟩:=zP3 H;have pj:=a6.out;have qn:=aa.out;have pk:=a7.out;have qo:=ab.out;have pl:=a8.out;have qp:=ac.out;have pm:=av.out;have qq:=am.out;obtain⟨m2,m3,m4,np,nq,nr⟩:=cell3 D;have pn:=bk.out;have qr:=bi.out;have po:=cj.out;have qt:=ci.out;have pp:=a0.out;have qu:=a5.out;obtain⟨m5,m6,m7,nt,nu,nv⟩:=cell3 O;obtain⟨dc,dd,mg⟩:=Kd.S_slice HO_251001.out;subst mg;obtain⟨e0,e6,mh⟩:=Kd.R_slice HO_251002.out;subst mh;go_wp2;refine bodyPost_ret (results_cell_row rfl _ _ an 25 #[.slice aj Y.length ak,.slice dc X.length dd,.slice e0 aw.length e6] (0,0) _ rfl (by refine bkR ?_;refine blk_put (cs:= #[.slice aj Y.length ak,.slice dc X.length dd,.slice none 0 0]) ?_ 2 _ rfl;refine bkR ?_;refine blk_put (cs:= #[.slice aj Y.length ak,.slice none 0 0,.slice none 0 0]) ?_ 1 _ rfl;refine bkR ?_;refine blk_put (cs:= #[.slice none 0 0,.slice none 0 0,.slice none 0 0]) ?_ 0 _ rfl;refine bkR ?_;exact O.out) Try.underlying25 rfl zad) rfl ?_;exact⟨_,_,_,rfE,by(with_reducible repeat(first|apply Kd.R_alloc|apply Kd.R_drewN|apply Kd.R_drew));exact Kd.R_mono (Kd.R_far (p:=⟨an,2,none⟩) (Kd.R_far (p:=⟨an,1,none⟩) (Kd.R_far (p:=⟨an,0,none⟩) (Kd.R_types HO_251000.out O.out zab) (fun _ hk=>hk.2) (.slice aj Y.length ak)) (fun _ hk=>hk.2) (.slice dc X.length dd)) (fun _ hk=>hk.2) (.slice e0 aw.length e6)) (fun _ hk=>hk.1),by(with_reducible repeat(first|apply Kd.S_alloc|apply Kd.S_drewN|apply Kd.S_drew));exact Kd.S_mono (Kd.S_far (p:=⟨an,2,none⟩) (Kd.S_far (p:=⟨an,1,none⟩) (Kd.S_far (p:=⟨an,0,none⟩) (Kd.S_types HO_251001.out O.out zab) (fun _ hk=>hk.2) (.slice aj Y.length ak)) (fun _ hk=>hk.2) (.slice dc X.length dd)) (fun _ hk=>hk.2) (.slice e0 aw.length e6)) (fun _ hk=>trivial),by(with_reducible repeat(first|apply Kd.R_alloc|apply Kd.R_drewN|apply Kd.R_drew));exact Kd.R_mono (Kd.R_far (p:=⟨an,2,none⟩) (Kd.R_far (p:=⟨an,1,none⟩) (Kd.R_far (p:=⟨an,0,none⟩) (Kd.R_types HO_251002.out O.out zab) (fun _ hk=>hk.2) (.slice aj Y.length ak)) (fun _ hk=>hk.2) (.slice dc X.length dd)) (fun _ hk=>hk.2) (.slice e0 aw.length e6)) (fun _ hk=>hk.1),hbA HB.out⟩
      rw[if_pos es]at H
      have c139b0:decide (au<(ae.length:Int))=true:=decide_eq_true es;clear es;by_cases ga:0<=au
      case neg=>rw[if_neg ga]at H;exact absurd H zac
      rw[if_pos ga]at H
      have c140b0:decide (0<=au)=true:=decide_eq_true ga;clear ga;by_cases gb:au<(ae.length:Int)
      case neg=>rw[if_neg gb]at H;exact absurd H zac
      rw[if_pos gb]at H
      have c141b0:decide (au<(ae.length:Int))=true:=decide_eq_true gb;clear gb;by_cases et:(rd ae au)>=ai
      case neg=>
       rw[if_neg et]at H
       have c142b0:decide (ai<=(rd ae au))=false:=decide_eq_false et;clear et;by_cases ge:aw.length<17592186044416
       case neg=>rw[if_neg ge]at H;exact absurd H zac
       rw[if_pos ge]at H
       have ko:=aK ge;clear ge;obtain⟨ex,ek⟩: ∃y_:List Int,y_=(aw++ [rd ae au]):=⟨_,rfl⟩
       replace H:(share_taken.l1 k2 ae (ae.length:Int) (wrap64 (au+1)) Y X ex ai 0)=some (r1,r2,r3):=zH ek H
       have lu:=aK ek;clear ek;have H':=aK H;clear H;have em:0<=(au:Int):=of_decide_eq_true asE;have eo:au<(ae.length:Int):=of_decide_eq_true asE;obtain⟨f0,jx,bg⟩:=Kd.at_int jl.out au em eo
       cases jx
       replace bg:=(HB.out.cell (World.block_lt_of_cell? w _ bg)).trans bg;replace em:=eq_true em;replace eo:=eq_true eo;have pc:=a3.out;have qg:=ay.out;have pd:=a4.out;have qh:=az.out;have pe:=a5.out;have qi:=a0.out;have pf:=am.out;have qj:=av.out;obtain⟨mt,mu,ng,nh⟩:=cell2o I;have pg:=a6.out;have qk:=aa.out;have ph:=a7.out;have ql:=ab.out;have pi:=a8.out;have qm:=ac.out;obtain⟨mv,mw,my,ni,nj,nk⟩:=cell3 D
       go_wp2_with (first|((with_reducible refine gate_builtin (b:= .append) (xs:= #[.tmp 108,.tmp 110]) rfl ?_);at_builtin;refine Kd.R_append (Kd.int .i64) (w0:=w) w.heap.size rfl (.tmp 108) (.tmp 110) 22 3 (.int .i64 0) 8 rfl Try.underlying22 info3 rfl zab zaa u251002 aw (rd ae au) [.int .i64 (rd ae au)] (fun k_=>some k_≠(.slice aj Y.length ak:Value).ownBlock) (fun _=>False) rfl rfl ?aP (fun _ hk=>hk.elim) ?aF ?aO ?aB ?aS ?aL ?_;(case aP=>exact rfl);(case aB=>exact(hbA HB.out));(case aF=>exact(fun k_ hk=>Kd.fresh' (Kd.R_lt (kdA HO_251000.out)) k_ hk));(case aO=>exact(kdA HO_251002.out));(case aS=>exact(below_size (hbA HB.out)));(case aL=>have:=ko.out;omega);intro vk vq ho hb hg hat;have jd:=aK (nwR HNW.out (blk_lt (bkA I.out)) hat);rw[<-lu.out]at ho;have n0_:=aK (Kd.R_after (ok:=(fun _=>True)) (by(with_reducible repeat(first|apply Kd.R_alloc|apply Kd.R_drewN|apply Kd.R_drew));exact Kd.R_mono HO_251000.out (fun _ hk=>⟨trivial,hk⟩)) hg hat);have n1_:=aK (Kd.S_over' (by(with_reducible repeat(first|apply Kd.S_alloc|apply Kd.S_drewN|apply Kd.S_drew));exact HO_251001.out) (Kd.R_typed (kdA HO_251002.out)) zab hg);have n2_:=aK (blk_grown (g:=a1) (o:= .cells #[.slice a9 al.length ba,.slice cb Z.length bb,.slice (some f0) ae.length bc] 25 (0,0)) (bkA G.out) hg (Kd.R_ne HO_251002.out G.out zab));have n3_:=aK (blk_grown (g:=a2) (o:= .cells #[.int .i64 ap,.int .i64 aq,.int .u8 ar,.int .i64 ax] 27 (0,0)) (bkA L.out) hg (Kd.R_ne HO_251002.out L.out zab));have n4_:=aK (blk_grown (g:=an) (o:= .cells #[.slice none 0 0,.slice none 0 0,.slice none 0 0] 25 (0,0)) (bkA O.out) hg (Kd.R_ne HO_251002.out O.out zab));have n5_:=aK (blk_grown (g:=ah) (o:= .cells #[.slice aj Y.length ak,u251001,u251002] 25 (0,0)) (bkA D.out) hg (Kd.R_ne HO_251002.out D.out zab));have n6_:=aK (blk_grown (g:=U) (o:= .cells #[.int .i64 ai] 3 (0,0)) (bkA I.out) hg (fun e_=>absurd (HNW.out _ e_.symm) (Nat.lt_irrefl _)));have n7_:=aK (hb);have n8_:=aK (ho);clear HO_251000;clear HO_251001;clear G;clear L;clear O;clear D;clear I;clear HB;clear HO_251002;have HO_251000:=n0_;have HO_251001:=n1_;have G:=n2_;have L:=n3_;have O:=n4_;have D:=n5_;have I:=n6_;have HB:=n7_;have jk:=n8_;clear n0_ n1_ n2_ n3_ n4_ n5_ n6_ n7_ n8_;clear ho hb hg hat;obtain⟨ez,e5,mf⟩:=Kd.R_slice jk.out;subst mf;obtain⟨mz,m0,m1,nl,nm,nn⟩:=cell3 D))
       go_roundg k2
       case measure=>have:=ca.out;have:=kj.out;omega
       case rel=>exact⟨(wrap64 (au+1)),(ex),(.slice ez ex.length e5),rsE,H',⟨by have:=ca.out;have:=kj.out;omega⟩,⟨by(with_reducible repeat(first|apply Kd.R_alloc|apply Kd.R_drewN|apply Kd.R_drew));exact Kd.R_mono (Kd.R_far (p:=⟨ah,2,none⟩) (Kd.R_types HO_251000.out D.out zab) (fun _ hk=>hk.2) (.slice ez ex.length e5)) (fun _ hk=>hk.1.2)⟩,⟨by(with_reducible repeat(first|apply Kd.S_alloc|apply Kd.S_drewN|apply Kd.S_drew));exact Kd.S_mono (Kd.S_far (p:=⟨ah,2,none⟩) (Kd.S_types HO_251001.out D.out zab) (fun _ hk=>hk.2) (.slice ez ex.length e5)) (fun _ hk=>hk.1)⟩,⟨by(with_reducible repeat(first|apply Kd.R_alloc|apply Kd.R_drewN|apply Kd.R_drew));exact Kd.R_mono (Kd.R_far (p:=⟨ah,2,none⟩) (Kd.R_types jk.out D.out zab) (fun _ hk=>hk.2) (.slice ez ex.length e5)) (fun _ hk=>hk.1)⟩,⟨by refine bkR ?_;refine blk_far ?_ aa.out _;refine bkR ?_;exact G.out⟩,⟨by refine bkR ?_;refine blk_far ?_ ab.out _;refine bkR ?_;exact L.out⟩,⟨by refine bkR ?_;refine blk_far ?_ ac.out _;refine bkR ?_;exact O.out⟩,⟨by refine bkR ?_;refine blk_put (cs:= #[.slice aj Y.length ak,u251001,u251002]) ?_ 2 _ rfl;refine bkR ?_;exact D.out⟩,⟨by refine bkR ?_;refine blk_far ?_ am.out _;refine bkR ?_;exact I.out⟩,⟨hbA HB.out⟩,⟨jd.out⟩⟩
      rw[if_pos et]at H
      have c142b0:decide (ai<=(rd ae au))=true:=decide_eq_true et;clear et;by_cases gc:aw.length<17592186044416
      case neg=>rw[if_neg gc]at H;exact absurd H zac
      rw[if_pos gc]at H
      have kn:=aK gc;clear gc;obtain⟨ew,ej⟩: ∃y_:List Int,y_=(aw++ [wrap64 ((rd ae au)+1)]):=⟨_,rfl⟩
      replace H:(share_taken.l1 k2 ae (ae.length:Int) (wrap64 (au+1)) Y X ew ai 0)=some (r1,r2,r3):=zH ej H
      have lt:=aK ej;clear ej;have H':=aK H;clear H;have em:0<=(au:Int):=of_decide_eq_true asE;have eo:au<(ae.length:Int):=of_decide_eq_true asE;obtain⟨f0,jx,bg⟩:=Kd.at_int jl.out au em eo
      cases jx
      replace bg:=(HB.out.cell (World.block_lt_of_cell? w _ bg)).trans bg;replace em:=eq_true em;replace eo:=eq_true eo;have o5:=a3.out;have p9:=ay.out;have o6:=a4.out;have qa:=az.out;have o7:=a5.out;have qb:=a0.out;have o8:=am.out;have qc:=av.out;obtain⟨mj,ml,m8,m9⟩:=cell2o I;have o9:=a6.out;have qd:=aa.out;have pa:=a7.out;have qe:=ab.out;have pb:=a8.out;have qf:=ac.out;obtain⟨mm,mo,mp,na,nb,nc⟩:=cell3 D
      go_wp2_with (first|((with_reducible refine gate_builtin (b:= .append) (xs:= #[.tmp 108,.tmp 110]) rfl ?_);at_builtin;refine Kd.R_append (Kd.int .i64) (w0:=w) w.heap.size rfl (.tmp 108) (.tmp 110) 22 3 (.int .i64 0) 8 rfl Try.underlying22 info3 rfl zab zaa u251002 aw (wrap64 ((rd ae au)+1)) [.int .i64 (wrap64 ((rd ae au)+1))] (fun k_=>some k_≠(.slice aj Y.length ak:Value).ownBlock) (fun _=>False) rfl rfl ?aP (fun _ hk=>hk.elim) ?aF ?aO ?aB ?aS ?aL ?_;(case aP=>exact rfl);(case aB=>exact(hbA HB.out));(case aF=>exact(fun k_ hk=>Kd.fresh' (Kd.R_lt (kdA HO_251000.out)) k_ hk));(case aO=>exact(kdA HO_251002.out));(case aS=>exact(below_size (hbA HB.out)));(case aL=>have:=kn.out;omega);intro u9 vp ho hb hg hat;have jd:=aK (nwR HNW.out (blk_lt (bkA I.out)) hat);rw[<-lt.out]at ho;have n0_:=aK (Kd.R_after (ok:=(fun _=>True)) (by(with_reducible repeat(first|apply Kd.R_alloc|apply Kd.R_drewN|apply Kd.R_drew));exact Kd.R_mono HO_251000.out (fun _ hk=>⟨trivial,hk⟩)) hg hat);have n1_:=aK (Kd.S_over' (by(with_reducible repeat(first|apply Kd.S_alloc|apply Kd.S_drewN|apply Kd.S_drew));exact HO_251001.out) (Kd.R_typed (kdA HO_251002.out)) zab hg);have n2_:=aK (blk_grown (g:=a1) (o:= .cells #[.slice a9 al.length ba,.slice cb Z.length bb,.slice (some f0) ae.length bc] 25 (0,0)) (bkA G.out) hg (Kd.R_ne HO_251002.out G.out zab));have n3_:=aK (blk_grown (g:=a2) (o:= .cells #[.int .i64 ap,.int .i64 aq,.int .u8 ar,.int .i64 ax] 27 (0,0)) (bkA L.out) hg (Kd.R_ne HO_251002.out L.out zab));have n4_:=aK (blk_grown (g:=an) (o:= .cells #[.slice none 0 0,.slice none 0 0,.slice none 0 0] 25 (0,0)) (bkA O.out) hg (Kd.R_ne HO_251002.out O.out zab));have n5_:=aK (blk_grown (g:=ah) (o:= .cells #[.slice aj Y.length ak,u251001,u251002] 25 (0,0)) (bkA D.out) hg (Kd.R_ne HO_251002.out D.out zab));have n6_:=aK (blk_grown (g:=U) (o:= .cells #[.int .i64 ai] 3 (0,0)) (bkA I.out) hg (fun e_=>absurd (HNW.out _ e_.symm) (Nat.lt_irrefl _)));have n7_:=aK (hb);have n8_:=aK (ho);clear HO_251000;clear HO_251001;clear G;clear L;clear O;clear D;clear I;clear HB;clear HO_251002;have HO_251000:=n0_;have HO_251001:=n1_;have G:=n2_;have L:=n3_;have O:=n4_;have D:=n5_;have I:=n6_;have HB:=n7_;have jj:=n8_;clear n0_ n1_ n2_ n3_ n4_ n5_ n6_ n7_ n8_;clear ho hb hg hat;obtain⟨ey,e4,me⟩:=Kd.R_slice jj.out;subst me;obtain⟨mq,mr,ms,nd,ne,nf⟩:=cell3 D))
      go_roundg k2
      case measure=>have:=ca.out;have:=kj.out;omega
      case rel=>exact⟨(wrap64 (au+1)),(ew),(.slice ey ew.length e4),rsE,H',⟨by have:=ca.out;have:=kj.out;omega⟩,⟨by(with_reducible repeat(first|apply Kd.R_alloc|apply Kd.R_drewN|apply Kd.R_drew));exact Kd.R_mono (Kd.R_far (p:=⟨ah,2,none⟩) (Kd.R_types HO_251000.out D.out zab) (fun _ hk=>hk.2) (.slice ey ew.length e4)) (fun _ hk=>hk.1.2)⟩,⟨by(with_reducible repeat(first|apply Kd.S_alloc|apply Kd.S_drewN|apply Kd.S_drew));exact Kd.S_mono (Kd.S_far (p:=⟨ah,2,none⟩) (Kd.S_types HO_251001.out D.out zab) (fun _ hk=>hk.2) (.slice ey ew.length e4)) (fun _ hk=>hk.1)⟩,⟨by(with_reducible repeat(first|apply Kd.R_alloc|apply Kd.R_drewN|apply Kd.R_drew));exact Kd.R_mono (Kd.R_far (p:=⟨ah,2,none⟩) (Kd.R_types jj.out D.out zab) (fun _ hk=>hk.2) (.slice ey ew.length e4)) (fun _ hk=>hk.1)⟩,⟨by refine bkR ?_;refine blk_far ?_ aa.out _;refine bkR ?_;exact G.out⟩,⟨by refine bkR ?_;refine blk_far ?_ ab.out _;refine bkR ?_;exact L.out⟩,⟨by refine bkR ?_;refine blk_far ?_ ac.out _;refine bkR ?_;exact O.out⟩,⟨by refine bkR ?_;refine blk_put (cs:= #[.slice aj Y.length ak,u251001,u251002]) ?_ 2 _ rfl;refine bkR ?_;exact D.out⟩,⟨by refine bkR ?_;refine blk_far ?_ am.out _;refine bkR ?_;exact I.out⟩,⟨hbA HB.out⟩,⟨jd.out⟩⟩
   rw[if_pos ep]at H
   have c25b0:decide (af<(Z.length:Int))=true:=decide_eq_true ep;clear ep;by_cases fa:0<=af
   case neg=>rw[if_neg fa]at H;exact absurd H zac
   rw[if_pos fa]at H
   have c26b0:decide (0<=af)=true:=decide_eq_true fa;clear fa;by_cases fb:af<(Z.length:Int)
   case neg=>rw[if_neg fb]at H;exact absurd H zac
   rw[if_pos fb]at H
   have c27b0:decide (af<(Z.length:Int))=true:=decide_eq_true fb;clear fb;obtain⟨⟨b9,ce,da⟩,qv,H⟩:=bindO H
   (try dsimp only at H)
   have ja:=aK H;clear H;have el:0<=(af:Int):=of_decide_eq_true asE;have en:af<(Z.length:Int):=of_decide_eq_true asE;obtain⟨be,ki,kx,ob,bf,fo,fm⟩:=at_L5 lf.out af el en
   cases ob
   replace bf:=(HB.out.cell (World.block_lt_of_cell? w _ bf)).trans bf;have jm:=aK fm;have i9:=aK fo;clear fm fo;replace el:=eq_true el;replace en:=eq_true en;have rn:=bj.out;have sw:=bh.out;have ro:=ci.out;have sx:=cj.out;have rp:=ab.out;have sy:=a7.out;have rq:=az.out;have ta:=a4.out;obtain⟨cl,cm,cn,co,cr,ct,cu,cv⟩:=cell4 L
   go_upto_region 7 with(first|((with_reducible refine gC 43 rfl ?_);refine cG (some 34) Try.func43 #[.slice ki (rd_L5 Z af).length kx,.agg #[.int .i64 ap,.int .i64 aq,.int .u8 ar,.int .i64 ax],.pointer (some ⟨gt,0,none⟩)] ?_;(with_reducible refine(share_without.calls (fun k_=>k_<w.heap.size) _ _ (rd_L5 Z af) ap aq ar ax gt b9 ce da _ ?side1 (((hbA HB.out).block gt (Array.getElem?_eq_some_iff.1 HGT.out).1).trans HGT.out) qv.out).mono ?_);(case side1=>exact Kd.V_mk i9.out (Kd.F_below (Kd.C_F k61_heap jm.out) (hbA HB.out)));rintro e v7 ⟨k4,rfl,ck,hb⟩;refine⟨_,rfl,?_⟩;have je:=aK (Kd.V_lower (Kd.V_mono (ok':=fun k_=>some k_≠(.slice aj Y.length ak:Value).ownBlock/\some k_≠(u251001:Value).ownBlock/\k_≠a1/\k_≠a2/\k_≠an/\k_≠ah/\k_≠U) ck (fun k_ hk_=>⟨Or.elim hk_ (fun hs_=>fun e_=>Nat.not_le.2 hs_ (Kd.R_base HO_251000.out k_ e_.symm)) (fun hn_=>(Kd.fresh' (Kd.R_lt (kdA HO_251000.out)) k_ hn_)),Or.elim hk_ (fun hs_=>fun e_=>Nat.not_le.2 hs_ (Kd.S_base HO_251001.out k_ e_.symm)) (fun hn_=>(Kd.fresh' (Kd.S_lt (by(with_reducible repeat(first|apply Kd.S_alloc|apply Kd.S_drewN|apply Kd.S_drew));exact HO_251001.out)) k_ hn_)),Or.elim hk_ (fun hs_=>fun e_=>Nat.not_le.2 hs_ (by rw[e_];exact k6.out)) (fun hn_=>(Kd.freshB (g:=a1) (o:= .cells #[.slice a9 al.length ba,.slice (some be) Z.length bb,.slice bd ae.length bc] 25 (0,0)) (bkA G.out) k_ hn_)),Or.elim hk_ (fun hs_=>fun e_=>Nat.not_le.2 hs_ (by rw[e_];exact k7.out)) (fun hn_=>(Kd.freshB (g:=a2) (o:= .cells #[.int .i64 ap,.int .i64 aq,.int .u8 ar,.int .i64 ax] 27 (0,0)) (bkA L.out) k_ hn_)),Or.elim hk_ (fun hs_=>fun e_=>Nat.not_le.2 hs_ (by rw[e_];exact k8.out)) (fun hn_=>(Kd.freshB (g:=an) (o:= .cells #[.slice none 0 0,.slice none 0 0,.slice none 0 0] 25 (0,0)) (bkA O.out) k_ hn_)),Or.elim hk_ (fun hs_=>fun e_=>Nat.not_le.2 hs_ (by rw[e_];exact k9.out)) (fun hn_=>(Kd.freshB (g:=ah) (o:= .cells #[.slice aj Y.length ak,u251001,.slice none 0 0] 25 (0,0)) (bkA D.out) k_ hn_)),Or.elim hk_ (fun hs_=>fun e_=>Nat.not_le.2 hs_ (by rw[e_];exact la.out)) (fun hn_=>(Kd.freshB (g:=U) (o:= .cells #[.int .i64 ai] 3 (0,0)) (bkA I.out) k_ hn_))⟩)) (below_size (hbA HB.out)));replace HO_251000:=kdB HO_251000 hb;replace HO_251001:=aK (Kd.S_below (by(with_reducible repeat(first|apply Kd.S_alloc|apply Kd.S_drewN|apply Kd.S_drew));exact HO_251001.out) hb);replace G:=bkB G hb;replace L:=bkB L hb;replace O:=bkB O hb;replace D:=bkB D hb;replace I:=bkB I hb;replace HB:=hbB HB hb;(try clear hb);(try clear ck)))
   (try simp only[Act.put,zL])
   go_cut [42] (fun t8 wc=> ∃(kq:Nat) (db:Bool),t8= .bool db/\Aside0 (share_taken.j1 kq 0 af b9 ce da Z (Z.length:Int) af db al Z ae ap aq ar ax Y X ai 0=some (r1,r2,r3))/\Aside0 (kq<=k1)/\Aside0 (Kd.V k61 61 wc w.heap.size (fun k_=>some k_≠((.slice aj Y.length ak):Value).ownBlock/\some k_≠(u251001:Value).ownBlock/\k_≠a1/\k_≠a2/\k_≠an/\k_≠ah/\k_≠U) k4 b9)/\Aside0 (Kd.R (Kd.int .i64) 3 wc w.heap.size (fun _=>True) (.slice aj Y.length ak) Y)/\Aside0 (Kd.S (Kd.slice 61 k61) 59 wc w.heap.size (fun k_=>k_≠U) u251001 X)/\Aside0 (wc.heap[a1]? =some (.cells #[(.slice a9 al.length ba),(.slice (some be) Z.length bb),(.slice bd ae.length bc)] 25 (0,0)))/\Aside0 (wc.heap[a2]? =some (.cells #[.int .i64 ap,.int .i64 aq,.int .u8 ar,.int .i64 ax] 27 (0,0)))/\Aside0 (wc.heap[an]? =some (.cells #[(.slice none 0 0),(.slice none 0 0),(.slice none 0 0)] 25 (0,0)))/\Aside0 (wc.heap[ah]? =some (.cells #[(.slice aj Y.length ak),u251001,(.slice none 0 0)] 25 (0,0)))/\Aside0 (wc.heap[U]? =some (.cells #[.int .i64 ai] 3 (0,0)))/\Aside0 (Below w.heap.size w wc))
   case first=>
    have H:=ja.out;clear ja;by_cases fc:da=true
    case neg=>
     replace fc:=Bool.eq_false_iff.mpr fc;subst fc;rw[if_neg nofT]at H
     have H':=aK H;clear H;go_wp2
     go_meet
     case rel=>exact⟨_,(false),rsE,H',⟨by have:=ca.out;first|omega|exact Nat.le_refl _⟩,⟨by(with_reducible repeat(first|apply Kd.V_alloc|apply Kd.V_drewN|apply Kd.V_drew));exact je.out⟩,⟨kdA HO_251000.out⟩,⟨by(with_reducible repeat(first|apply Kd.S_alloc|apply Kd.S_drewN|apply Kd.S_drew));exact HO_251001.out⟩,⟨bkA G.out⟩,⟨bkA L.out⟩,⟨bkA O.out⟩,⟨bkA D.out⟩,⟨bkA I.out⟩,⟨hbA HB.out⟩⟩
    subst fc;rw[if_pos rfl]at H
    have H':=aK H;clear H;have rr:=a3.out;have tb:=ay.out;have rt:=a4.out;have tc:=az.out;have ru:=a5.out;have td:=a0.out;have rv:=am.out;have te:=av.out;obtain⟨cp,cq,cw,cx⟩:=cell2o I;go_wp2
    go_meet
    case rel=>exact⟨_,(decide (ai<0)),rsE,H',⟨by have:=ca.out;first|omega|exact Nat.le_refl _⟩,⟨by(with_reducible repeat(first|apply Kd.V_alloc|apply Kd.V_drewN|apply Kd.V_drew));exact je.out⟩,⟨kdA HO_251000.out⟩,⟨by(with_reducible repeat(first|apply Kd.S_alloc|apply Kd.S_drewN|apply Kd.S_drew));exact HO_251001.out⟩,⟨bkA G.out⟩,⟨bkA L.out⟩,⟨bkA O.out⟩,⟨bkA D.out⟩,⟨bkA I.out⟩,⟨hbA HB.out⟩⟩
   case rest=>
    clear ja
    (try clear c1);(try clear c2);(try clear p2 p2);(try clear q2);(try clear mi);(try clear c3);(try clear c4);(try clear c8);(try clear c9);(try clear kp);(try clear kr);(try clear ks);(try clear kt);(try clear ku);(try clear kv);(try clear kw);(try clear ep);(try clear c25b0);(try clear p25);(try clear i3);(try clear kf);(try clear fa);(try clear c26b0);(try clear fb);(try clear c27b0);(try clear lv);(try clear lw);(try clear lx);(try clear ly);(try clear fc);(try clear lz);(try clear l2);(try clear l3);(try clear l4);(try clear l5);(try clear bl bm bn bx bz b0);(try clear bo bp bq b1 b2 b3);(try clear br bs b4 b5);(try clear bu bv bw b6 b7 b8);(try clear cl cm cn co cr ct cu cv);(try clear cp cq cw cx);(try clear bf);(try clear el);(try clear en)
    obtain⟨kq,db,rfl,HA,cd,HO_11,HO_251000,HO_251001,G,L,O,D,I,HB⟩:=hcut
    cases kq with
    |zero=>exact absurd HA.out (by simp[share_taken.j1])
    |succ kg=>
     have H:=HA.out;clear HA;simp only[share_taken.j1]at H;have jb:=aK H;clear H
     go_upto_if 42 with(fail)
     go_cut [] (fun wc=> ∃(kq:Nat) (ag:List (List (S61))) (J:Int) (u251001:Value),Aside0 (share_taken.j2 kq 0 b9 ce da Z (Z.length:Int) af al Z ae ap aq ar ax Y ag J 0=some (r1,r2,r3))/\Aside0 (kq<=kg)/\Aside0 (Kd.V k61 61 wc w.heap.size (fun k_=>some k_≠((.slice aj Y.length ak):Value).ownBlock/\some k_≠(u251001:Value).ownBlock/\k_≠a1/\k_≠a2/\k_≠an/\k_≠ah/\k_≠U) k4 b9)/\Aside0 (Kd.R (Kd.int .i64) 3 wc w.heap.size (fun _=>True) (.slice aj Y.length ak) Y)/\Aside0 (Kd.S (Kd.slice 61 k61) 59 wc w.heap.size (fun k_=>k_≠U) u251001 ag)/\Aside0 (wc.heap[a1]? =some (.cells #[(.slice a9 al.length ba),(.slice (some be) Z.length bb),(.slice bd ae.length bc)] 25 (0,0)))/\Aside0 (wc.heap[a2]? =some (.cells #[.int .i64 ap,.int .i64 aq,.int .u8 ar,.int .i64 ax] 27 (0,0)))/\Aside0 (wc.heap[an]? =some (.cells #[(.slice none 0 0),(.slice none 0 0),(.slice none 0 0)] 25 (0,0)))/\Aside0 (wc.heap[ah]? =some (.cells #[(.slice aj Y.length ak),u251001,(.slice none 0 0)] 25 (0,0)))/\Aside0 (wc.heap[U]? =some (.cells #[.int .i64 J] 3 (0,0)))/\Aside0 (Below w.heap.size w wc))
     case first=>
      have H:=jb.out;clear jb;by_cases f1:db=true
      case neg=>
       replace f1:=Bool.eq_false_iff.mpr f1;subst f1;rw[if_neg nofT]at H
       have H':=aK H;clear H;go_wp2
       go_meet
       case rel=>exact⟨_,(X),(ai),(u251001),H',⟨by have:=ca.out;have:=cd.out;first|omega|exact Nat.le_refl _⟩,⟨by(with_reducible repeat(first|apply Kd.V_alloc|apply Kd.V_drewN|apply Kd.V_drew));exact HO_11.out⟩,⟨kdA HO_251000.out⟩,⟨by(with_reducible repeat(first|apply Kd.S_alloc|apply Kd.S_drewN|apply Kd.S_drew));exact HO_251001.out⟩,⟨bkA G.out⟩,⟨bkA L.out⟩,⟨bkA O.out⟩,⟨bkA D.out⟩,⟨bkA I.out⟩,⟨hbA HB.out⟩⟩
      subst f1;rw[if_pos rfl]at H
      obtain⟨eu,eb⟩: ∃y_:List (S61),y_=(([(⟨ap,1⟩:S61),(⟨aq,ar⟩:S61)]:List (S61))):=⟨_,rfl⟩
      replace H:(if(X.length<1000000/\af=(X.length:Int))then(share_taken.j2 kg 0 b9 ce da Z (Z.length:Int) af al Z ae ap aq ar ax Y (X++ [eu]) (wrap64 ((al.length:Int)+af)) 0)else(none))=some (r1,r2,r3):=zH eb H
      have jo:=aK eb;clear eb;by_cases f2:(X.length<1000000/\af=(X.length:Int))
      case neg=>rw[if_neg f2]at H;exact absurd H zac
      rw[if_pos f2]at H
      have jn:=aK f2;clear f2;obtain⟨ev,ec⟩: ∃y_:List (List (S61)),y_=(X++ [eu]):=⟨_,rfl⟩
      replace H:(share_taken.j2 kg 0 b9 ce da Z (Z.length:Int) af al Z ae ap aq ar ax Y ev (wrap64 ((al.length:Int)+af)) 0)=some (r1,r2,r3):=zH ec H
      have lm:=aK ec;clear ec;have H':=aK H;clear H;have rx:=bh.out;have tf:=bj.out;have ry:=bi.out;have tg:=bk.out;have rz:=aa.out;have th:=a6.out;have r0:=ay.out;have ti:=a3.out;obtain⟨de,df,dg,dv,dw,dx⟩:=cell3 G;have r4:=a4.out;have tj:=az.out;have r5:=a5.out;have tk:=a0.out;have r6:=am.out;have tl:=av.out;obtain⟨dh,di,dy,dz⟩:=cell2o I;have r7:=a7.out;have tm:=ab.out;have r8:=a8.out;have tn:=ac.out;obtain⟨dj,dk,dl,d0,d1,d2⟩:=cell3 D;have r9:=ci.out;have tp:=cj.out;obtain⟨dm,dn,dp,dq,d3,d4,d5,d6⟩:=cell4 L;obtain⟨Ag,cg,eg⟩:=Kd.S_slice HO_251001.out;subst eg;obtain⟨v3,ky,_⟩:=Option.map_eq_some_iff.1 info59;have uu:=cut3 (P:=Try.prog) 23 59 .i64 .i64 Try.underlying23 ky Ag X.length cg af jn.out.2 (Kd.S_reads' HO_251001.out).2.1;clear ky
      go_wp2_with (first|((with_reducible refine gate_dst (N:=62) rfl ?_);refine Kd.R_lit k61 _ 61 ?hg (N:=62) ?hd (xs:=([(⟨ap,1⟩:S61),(⟨aq,ar⟩:S61)]:List (S61))) (inner:= [.int .i64 ap,.int .u8 1,.int .i64 aq,.int .u8 ar]) (ok:=fun _=>True) (okp:=fun _=>True) ?hr ?hp (fun _ hk=>hk) trivial (Below.refl _ _) (Nat.le_refl _) zac ?_;(case hd=>rfl);(case hg=>rfl);(case hr=>first|(go_simp;done)|(go_simp;rfl));(case hp=>exact(Reps.c2 (show Kd.M k61 _ _ _ (⟨ap,1⟩:S61) [.int .i64 ap,.int .u8 1]from(k61_mkM _ _ _ (⟨ap,1⟩:S61))) (Reps.c2 (show Kd.M k61 _ _ _ (⟨aq,ar⟩:S61) [.int .i64 aq,.int .u8 ar]from(k61_mkM _ _ _ (⟨aq,ar⟩:S61))) (Reps.none _ _))));intro uz v8 ea hb hg_ hnew_;clear hg_ hnew_;(first|rw[<-jo.out]at ea|(simp only[Int.reduceToNat]at ea;rw[<-jo.out]at ea));replace HO_11:=aK (Kd.V_elder' (by(with_reducible repeat(first|apply Kd.V_alloc|apply Kd.V_drewN|apply Kd.V_drew));exact(Kd.V_mono (Kd.V_far (p:=⟨U,0,none⟩) (Kd.V_mono HO_11.out (fun k_ hk=>(⟨hk,hk.2.2.2.2.2.2⟩:_/\k_≠U))) (fun _ hk=>hk.2) (.int .i64 (wrap64 ((al.length:Int)+af)))) (fun _ h_=>h_.1))) (Kd.R_base ea) hb);replace HO_251000:=aK (Kd.R_below (by(with_reducible repeat(first|apply Kd.R_alloc|apply Kd.R_drewN|apply Kd.R_drew));exact(Kd.R_mono (Kd.R_far (p:=⟨U,0,none⟩) (nR HO_251000.out NEO.out) (fun _ hk=>hk.2) (.int .i64 (wrap64 ((al.length:Int)+af)))) (fun _ h_=>h_.1))) hb);replace HO_251001:=aK (Kd.S_elder' (by(with_reducible repeat(first|apply Kd.S_alloc|apply Kd.S_drewN|apply Kd.S_drew));exact(Kd.S_mono (Kd.S_far (p:=⟨U,0,none⟩) (Kd.S_mono HO_251001.out (fun k_ hk=>(⟨hk,hk⟩:_/\k_≠U))) (fun _ hk=>hk.2) (.int .i64 (wrap64 ((al.length:Int)+af)))) (fun _ h_=>h_.1))) (Kd.R_base ea) hb);have e1:=aK (Kd.R_lower (Kd.R_newB ea (g:=U) (o:= .cells #[.int .i64 (wrap64 ((al.length:Int)+af))] 3 (0,0)) zb7) (below_size (hbA HB.out)));replace G:=aK (blk_below (g:=a1) (o:= .cells #[.slice a9 al.length ba,.slice (some be) Z.length bb,.slice bd ae.length bc] 25 (0,0)) (by refine bkR ?_;refine blk_far ?_ ay.out _;refine bkR ?_;exact G.out) hb);replace L:=aK (blk_below (g:=a2) (o:= .cells #[.int .i64 ap,.int .i64 aq,.int .u8 ar,.int .i64 ax] 27 (0,0)) (by refine bkR ?_;refine blk_far ?_ az.out _;refine bkR ?_;exact L.out) hb);replace O:=aK (blk_below (g:=an) (o:= .cells #[.slice none 0 0,.slice none 0 0,.slice none 0 0] 25 (0,0)) (by refine bkR ?_;refine blk_far ?_ a0.out _;refine bkR ?_;exact O.out) hb);replace D:=aK (blk_below (g:=ah) (o:= .cells #[.slice aj Y.length ak,(.slice Ag X.length cg:Value),.slice none 0 0] 25 (0,0)) (by refine bkR ?_;refine blk_far ?_ av.out _;refine bkR ?_;exact D.out) hb);replace I:=aK (blk_below (g:=U) (o:= .cells #[.int .i64 (wrap64 ((al.length:Int)+af))] 3 (0,0)) zb7 hb);replace HB:=hbB HB hb;clear hb ea;obtain⟨i7,jv,od⟩:=Kd.R_slice e1.out;subst od)|((with_reducible refine gate_builtin (b:= .append) (xs:= #[.tmp 53,.tmp 63]) rfl ?_);at_builtin;refine S_append_cut (Kd.slice 61 k61) (w0:=w) w.heap.size rfl (.tmp 53) (.tmp 63) 23 59 (.slice none 0 0) 24 rfl Try.underlying23 info59 rfl zab zaa Ag cg X eu [.slice i7 eu.length jv] (fun k_=>k_≠U) (fun k_=>some k_=(.slice i7 eu.length jv:Value).ownBlock) rfl rfl ?aP (fun k_ hk_=>((Kd.R_mono (ok':=fun k_=>((fun k_=>k_≠U)) k_/\some k_≠((.slice Ag X.length cg:Value):Value).ownBlock) (Kd.R_apart' (e1.out) (Kd.S_typed HO_251001.out) zab) (fun k_ hk=>⟨hk.1.2,hk.2⟩))).1 k_ hk_.symm) ?aF ?aO ?aB ?aS ?aL ?_;(case aP=>exact Kd.M_row (Kd.R_mono (Kd.R_tight rfl (Kd.R_mono (ok':=fun k_=>((fun k_=>k_≠U)) k_/\some k_≠((.slice Ag X.length cg:Value):Value).ownBlock) (Kd.R_apart' (e1.out) (Kd.S_typed HO_251001.out) zab) (fun k_ hk=>⟨hk.1.2,hk.2⟩))) (fun _ h_=>h_)));(case aB=>exact(hbA HB.out));(case aF=>exact(fun k_ hk=>Kd.freshB (g:=U) (o:= .cells #[.int .i64 (wrap64 ((al.length:Int)+af))] 3 (0,0)) (bkA I.out) k_ hk));(case aO=>exact(by(with_reducible repeat(first|apply Kd.S_alloc|apply Kd.S_drewN|apply Kd.S_drew));exact Kd.S_mono HO_251001.out (fun k_ hk=>⟨hk.1,fun e_=>hk.2 e_⟩)));(case aS=>exact(below_size (hbA HB.out)));(case aL=>have:=jn.out;omega);intro u0 v9 ho hb hg hat;rw[<-lm.out]at ho;have n0_:=aK (Kd.V_afterv (ok:=(fun k_=>some k_≠(.slice aj Y.length ak:Value).ownBlock/\some k_≠(.slice i7 eu.length jv:Value).ownBlock/\k_≠a1/\k_≠a2/\k_≠an/\k_≠ah/\k_≠U)) (by(with_reducible repeat(first|apply Kd.V_alloc|apply Kd.V_drewN|apply Kd.V_drew));exact Kd.V_mono HO_11.out (fun _ hk=>⟨⟨hk.1.1,⟨hk.2,⟨hk.1.2.2.1,⟨hk.1.2.2.2.1,⟨hk.1.2.2.2.2.1,⟨hk.1.2.2.2.2.2.1,hk.1.2.2.2.2.2.2⟩⟩⟩⟩⟩⟩,hk.1.2.1⟩)) hg hat);have n1_:=aK (Kd.R_over' (kdA HO_251000.out) (Kd.S_typed (by(with_reducible repeat(first|apply Kd.S_alloc|apply Kd.S_drewN|apply Kd.S_drew));exact HO_251001.out)) zab hg);have n2_:=aK (blk_grown (g:=a1) (o:= .cells #[.slice a9 al.length ba,.slice (some be) Z.length bb,.slice bd ae.length bc] 25 (0,0)) (bkA G.out) hg (Kd.S_ne HO_251001.out G.out zab));have n3_:=aK (blk_grown (g:=a2) (o:= .cells #[.int .i64 ap,.int .i64 aq,.int .u8 ar,.int .i64 ax] 27 (0,0)) (bkA L.out) hg (Kd.S_ne HO_251001.out L.out zab));have n4_:=aK (blk_grown (g:=an) (o:= .cells #[.slice none 0 0,.slice none 0 0,.slice none 0 0] 25 (0,0)) (bkA O.out) hg (Kd.S_ne HO_251001.out O.out zab));have n5_:=aK (blk_grown (g:=ah) (o:= .cells #[.slice aj Y.length ak,(.slice Ag X.length cg:Value),.slice none 0 0] 25 (0,0)) (bkA D.out) hg (Kd.S_ne HO_251001.out D.out zab));have n6_:=aK (blk_grown (g:=U) (o:= .cells #[.int .i64 (wrap64 ((al.length:Int)+af))] 3 (0,0)) (bkA I.out) hg (Kd.S_ne HO_251001.out I.out zab));have n7_:=aK (hb);have n8_:=aK (ho);clear HO_11;clear HO_251000;clear G;clear L;clear O;clear D;clear I;clear HB;clear HO_251001;clear e1;have HO_11:=n0_;have HO_251000:=n1_;have G:=n2_;have L:=n3_;have O:=n4_;have D:=n5_;have I:=n6_;have HB:=n7_;have jf:=n8_;clear n0_ n1_ n2_ n3_ n4_ n5_ n6_ n7_ n8_;clear ho hb hg hat;obtain⟨f8,gf,oe⟩:=Kd.S_slice jf.out;subst oe;obtain⟨dr,dt,du,d7,d8,d9⟩:=cell3 D))
      go_meet
      case rel=>exact⟨_,(ev),(wrap64 ((al.length:Int)+af)),(.slice f8 ev.length gf),H',⟨by have:=ca.out;have:=cd.out;first|omega|exact Nat.le_refl _⟩,⟨by(with_reducible repeat(first|apply Kd.V_alloc|apply Kd.V_drewN|apply Kd.V_drew));exact Kd.V_mono (Kd.V_far (p:=⟨ah,1,none⟩) (Kd.V_mono HO_11.out (fun k_ hk=>(⟨hk,hk.1.2.2.2.2.2.1⟩:_/\k_≠ah))) (fun _ hk=>hk.2) (.slice f8 ev.length gf)) (fun _ hk=>⟨hk.1.1.1,⟨hk.1.2,⟨hk.1.1.2.2.1,⟨hk.1.1.2.2.2.1,⟨hk.1.1.2.2.2.2.1,⟨hk.1.1.2.2.2.2.2.1,hk.1.1.2.2.2.2.2.2⟩⟩⟩⟩⟩⟩)⟩,⟨by(with_reducible repeat(first|apply Kd.R_alloc|apply Kd.R_drewN|apply Kd.R_drew));exact Kd.R_mono (Kd.R_far (p:=⟨ah,1,none⟩) (Kd.R_types HO_251000.out D.out zab) (fun _ hk=>hk.2) (.slice f8 ev.length gf)) (fun _ hk=>trivial)⟩,⟨by(with_reducible repeat(first|apply Kd.S_alloc|apply Kd.S_drewN|apply Kd.S_drew));exact Kd.S_mono (Kd.S_far (p:=⟨ah,1,none⟩) (Kd.S_types jf.out D.out zab) (fun _ hk=>hk.2) (.slice f8 ev.length gf)) (fun _ hk=>hk.1)⟩,⟨by refine bkR ?_;refine blk_far ?_ aa.out _;refine bkR ?_;exact G.out⟩,⟨by refine bkR ?_;refine blk_far ?_ ab.out _;refine bkR ?_;exact L.out⟩,⟨by refine bkR ?_;refine blk_far ?_ ac.out _;refine bkR ?_;exact O.out⟩,⟨by refine bkR ?_;refine blk_put (cs:= #[.slice aj Y.length ak,(.slice Ag X.length cg:Value),.slice none 0 0]) ?_ 1 _ rfl;refine bkR ?_;exact D.out⟩,⟨by refine bkR ?_;refine blk_far ?_ am.out _;refine bkR ?_;exact I.out⟩,⟨hbA HB.out⟩⟩
     case rest=>
      clear jb
      (try clear c1);(try clear c2);(try clear p2 p2);(try clear q2 q2);(try clear mi);(try clear c3);(try clear c4);(try clear c5);(try clear p6);(try clear c8);(try clear c9);(try clear kp);(try clear kr);(try clear ks);(try clear kt);(try clear ku);(try clear kv);(try clear kw);(try clear ep);(try clear c25b0);(try clear p25 p25);(try clear i3 i3);(try clear kf);(try clear fa);(try clear c26b0);(try clear fb);(try clear c27b0);(try clear lv);(try clear lw);(try clear lx);(try clear ly);(try clear fc);(try clear lz);(try clear l2);(try clear l3);(try clear l4);(try clear l5);(try clear f1);(try clear f2);(try clear nz);(try clear n0);(try clear n1);(try clear n2);(try clear n3);(try clear n4);(try clear n5);(try clear n6);(try clear n7);(try clear n8);(try clear p64);(try clear bl bm bn bx bz b0);(try clear bo bp bq b1 b2 b3);(try clear br bs b4 b5);(try clear bu bv bw b6 b7 b8);(try clear cl cm cn co cr ct cu cv);(try clear cp cq cw cx);(try clear de df dg dv dw dx);(try clear dh di dy dz);(try clear dj dk dl d0 d1 d2);(try clear dm dn dp dq d3 d4 d5 d6);(try clear dr dt du d7 d8 d9);(try clear bf);(try clear el);(try clear en)
      obtain⟨kq,ag,J,u251001,HA,cy,HO_11,HO_251000,HO_251001,G,L,O,D,I,HB⟩:=hcut
      cases kq with
      |zero=>exact absurd HA.out (by simp[share_taken.j2])
      |succ kz=>
       have H:=HA.out;clear HA;simp only[share_taken.j2]at H;have jc:=aK H;clear H;have sa:=a3.out;have tq:=ay.out;have sb:=a4.out;have tr:=az.out;have sc:=a5.out;have tt:=a0.out;have sd:=am.out;have tu:=av.out;obtain⟨fe,ff,fi,fj⟩:=cell2o I
       go_upto_if 67 with(fail)
       go_cut [11] (fun om wc=> ∃(kq:Nat) (ao:List (S61)),Aside0 (share_taken.j3 kq 0 ao ce da Z (Z.length:Int) af al Z ae ap aq ar ax Y ag J 0=some (r1,r2,r3))/\Aside0 (kq<=kz)/\Aside0 (Kd.R k61 61 wc w.heap.size (fun k_=>k_≠U) om ao)/\Aside0 (Kd.R (Kd.int .i64) 3 wc w.heap.size (fun _=>True) (.slice aj Y.length ak) Y)/\Aside0 (Kd.S (Kd.slice 61 k61) 59 wc w.heap.size (fun k_=>some k_≠(om:Value).ownBlock/\k_≠U) u251001 ag)/\Aside0 (wc.heap[a1]? =some (.cells #[(.slice a9 al.length ba),(.slice (some be) Z.length bb),(.slice bd ae.length bc)] 25 (0,0)))/\Aside0 (wc.heap[a2]? =some (.cells #[.int .i64 ap,.int .i64 aq,.int .u8 ar,.int .i64 ax] 27 (0,0)))/\Aside0 (wc.heap[an]? =some (.cells #[(.slice none 0 0),(.slice none 0 0),(.slice none 0 0)] 25 (0,0)))/\Aside0 (wc.heap[ah]? =some (.cells #[(.slice aj Y.length ak),u251001,(.slice none 0 0)] 25 (0,0)))/\Aside0 (wc.heap[U]? =some (.cells #[.int .i64 J] 3 (0,0)))/\Aside0 (Below w.heap.size w wc))
       case first=>
        have H:=jc.out;clear jc;by_cases fd:J>=0
        case neg=>
         rw[if_neg fd]at H
         have c71b0:decide (0<=J)=false:=decide_eq_false fd;clear fd
         (first|rw[c71b0] |(simp only[i64_w,i32_w];rw[c71b0])|skip)
         obtain⟨k3,qx,H⟩:=bindO H
         (try dsimp only at H)
         have H':=aK H;clear H;obtain⟨ny,oa,oh⟩:=Kd.V_slice HO_11.out;subst oh
         go_wp2_with (first|((with_reducible refine gC 42 rfl ?_);refine cG (some 72) Try.func42 #[.slice ny b9.length oa] ?_;(with_reducible refine(api_Term_42.calls _ _ b9 k3 _ ?side1 ?side2 qx.out).mono ?_);(case side1=>repeat(first|exact(Kd.V_reads' HO_11.out).2.2|(with_reducible refine Kd.C_alloc ?_ _)|(with_reducible refine Kd.C_drewN ?_ _)|(with_reducible refine Kd.C_drew ?_)));(case side2=>exact(Kd.V_reads' HO_11.out).2.1);rintro e wb ⟨u2,rfl,ck,hb⟩;refine⟨_,rfl,?_⟩;replace HO_11:=aK (Kd.V_elder' (by(with_reducible repeat(first|apply Kd.V_alloc|apply Kd.V_drewN|apply Kd.V_drew));exact HO_11.out) (Kd.R_base ck) hb);replace HO_251000:=kdB HO_251000 hb;replace HO_251001:=aK (Kd.S_elder' (by(with_reducible repeat(first|apply Kd.S_alloc|apply Kd.S_drewN|apply Kd.S_drew));exact HO_251001.out) (Kd.R_base ck) hb);have ld:=aK (Kd.R_lower (Kd.R_newB ck (g:=U) (o:= .cells #[.int .i64 J] 3 (0,0)) (bkA I.out)) (below_size (hbA HB.out)));replace G:=bkB G hb;replace L:=bkB L hb;replace O:=bkB O hb;replace D:=bkB D hb;replace I:=bkB I hb;replace HB:=hbB HB hb;(try clear hb);(try clear ck)))
         go_meet
         case rel=>exact⟨_,(k3),H',⟨by have:=ca.out;have:=cd.out;have:=cy.out;first|omega|exact Nat.le_refl _⟩,⟨by(with_reducible repeat(first|apply Kd.R_alloc|apply Kd.R_drewN|apply Kd.R_drew));exact Kd.R_mono ld.out (fun _ hk=>hk.2)⟩,⟨kdA HO_251000.out⟩,⟨by(with_reducible repeat(first|apply Kd.S_alloc|apply Kd.S_drewN|apply Kd.S_drew));exact Kd.S_mono HO_251001.out (fun _ hk=>⟨hk.2,hk.1⟩)⟩,⟨bkA G.out⟩,⟨bkA L.out⟩,⟨bkA O.out⟩,⟨bkA D.out⟩,⟨bkA I.out⟩,⟨hbA HB.out⟩⟩
        rw[if_pos fd]at H
        have c71b0:decide (0<=J)=true:=decide_eq_true fd;clear fd
        (first|rw[c71b0] |(simp only[i64_w,i32_w];rw[c71b0])|skip)
        obtain⟨k0,qw,H⟩:=bindO H
        (try dsimp only at H)
        have H':=aK H;clear H;have se:=a3.out;have tv:=ay.out;have sf:=a4.out;have tw:=az.out;have sg:=a5.out;have tx:=a0.out;have sh:=am.out;have tz:=av.out;obtain⟨fg,fh,fk,fl⟩:=cell2o I;obtain⟨nx,n9,og⟩:=Kd.V_slice HO_11.out;subst og
        go_wp2_with (first|((with_reducible refine gC 44 rfl ?_);refine cG (some 70) Try.func44 #[.slice nx b9.length n9,.int .i64 J] ?_;(with_reducible refine(share_shifted.calls kz _ _ b9 J k0 _ ?side1 ?side2 qw.out).mono ?_);(case side1=>repeat(first|exact(Kd.V_reads' HO_11.out).2.2|(with_reducible refine Kd.C_alloc ?_ _)|(with_reducible refine Kd.C_drewN ?_ _)|(with_reducible refine Kd.C_drew ?_)));(case side2=>exact(Kd.V_reads' HO_11.out).2.1);rintro e wa ⟨u1,rfl,ck,hb⟩;refine⟨_,rfl,?_⟩;replace HO_11:=aK (Kd.V_elder' (by(with_reducible repeat(first|apply Kd.V_alloc|apply Kd.V_drewN|apply Kd.V_drew));exact HO_11.out) (Kd.R_base ck) hb);replace HO_251000:=kdB HO_251000 hb;replace HO_251001:=aK (Kd.S_elder' (by(with_reducible repeat(first|apply Kd.S_alloc|apply Kd.S_drewN|apply Kd.S_drew));exact HO_251001.out) (Kd.R_base ck) hb);have lc:=aK (Kd.R_lower (Kd.R_newB ck (g:=U) (o:= .cells #[.int .i64 J] 3 (0,0)) (bkA I.out)) (below_size (hbA HB.out)));replace G:=bkB G hb;replace L:=bkB L hb;replace O:=bkB O hb;replace D:=bkB D hb;replace I:=bkB I hb;replace HB:=hbB HB hb;(try clear hb);(try clear ck)))
        go_meet
        case rel=>exact⟨_,(k0),H',⟨by have:=ca.out;have:=cd.out;have:=cy.out;first|omega|exact Nat.le_refl _⟩,⟨by(with_reducible repeat(first|apply Kd.R_alloc|apply Kd.R_drewN|apply Kd.R_drew));exact Kd.R_mono lc.out (fun _ hk=>hk.2)⟩,⟨kdA HO_251000.out⟩,⟨by(with_reducible repeat(first|apply Kd.S_alloc|apply Kd.S_drewN|apply Kd.S_drew));exact Kd.S_mono HO_251001.out (fun _ hk=>⟨hk.2,hk.1⟩)⟩,⟨bkA G.out⟩,⟨bkA L.out⟩,⟨bkA O.out⟩,⟨bkA D.out⟩,⟨bkA I.out⟩,⟨hbA HB.out⟩⟩
       case rest=>
        clear jc
        (try clear c1);(try clear c2);(try clear p2 p2);(try clear q2 q2);(try clear mi);(try clear c3);(try clear c4);(try clear c5);(try clear c6);(try clear p6 p6);(try clear c7);(try clear c8);(try clear c9);(try clear kp);(try clear kr);(try clear ks);(try clear kt);(try clear ku);(try clear kv);(try clear kw);(try clear ep);(try clear c25b0);(try clear p25 p25);(try clear i3 i3);(try clear kf);(try clear fa);(try clear c26b0);(try clear fb);(try clear c27b0);(try clear lv);(try clear lw);(try clear lx);(try clear ly);(try clear fc);(try clear lz);(try clear l2);(try clear l3);(try clear l4);(try clear l5);(try clear q6);(try clear f1);(try clear f2);(try clear nz);(try clear n0);(try clear n1);(try clear n2);(try clear n3);(try clear n4);(try clear n5);(try clear n6);(try clear n7);(try clear n8);(try clear p64 p64);(try clear q7);(try clear q8);(try clear q9);(try clear ra);(try clear fd);(try clear c71b0);(try clear rb);(try clear rc);(try clear re);(try clear rf);(try clear bl bm bn bx bz b0);(try clear bo bp bq b1 b2 b3);(try clear br bs b4 b5);(try clear bu bv bw b6 b7 b8);(try clear cl cm cn co cr ct cu cv);(try clear cp cq cw cx);(try clear de df dg dv dw dx);(try clear dh di dy dz);(try clear dj dk dl d0 d1 d2);(try clear dm dn dp dq d3 d4 d5 d6);(try clear dr dt du d7 d8 d9);(try clear fe ff fi fj);(try clear fg fh fk fl);(try clear bf);(try clear el);(try clear en)
        obtain⟨kq,ao,HA,er,HO_11,HO_251000,HO_251001,G,L,O,D,I,HB⟩:=hcut
        cases kq with
        |zero=>exact absurd HA.out (by simp[share_taken.j3])
        |succ cz=>
         have H:=HA.out;clear HA;simp only[share_taken.j3]at H;by_cases jp:da=true
         case neg=>
          replace jp:=Bool.eq_false_iff.mpr jp;subst jp;rw[if_neg nofT]at H
          by_cases e9:ag.length<5864062014805
          case neg=>rw[if_neg e9]at H;exact absurd H zac
          rw[if_pos e9]at H
          have km:=aK e9;clear e9;obtain⟨fv,ei⟩: ∃y_:List (List (S61)),y_=(ag++ [ao]):=⟨_,rfl⟩
          replace H:(share_taken.l0 cz 0 Z (Z.length:Int) (wrap64 (af+1)) al Z ae ap aq ar ax Y fv J 0)=some (r1,r2,r3):=zH ei H
          have ls:=aK ei;clear ei;have H':=aK H;clear H;have ox:=a6.out;have pz:=aa.out;have oy:=a7.out;have p0:=ab.out;have oz:=a8.out;have p1:=ac.out;have o0:=av.out;have p3:=am.out;obtain⟨gz,g0,g1,it,iu,iv⟩:=cell3 D;obtain⟨i6,ju,mb⟩:=Kd.R_slice HO_11.out;subst mb
          go_wp2_with (first|((with_reducible refine gate_builtin (b:= .append) (xs:= #[.tmp 89,.tmp 91]) rfl ?_);at_builtin;refine Kd.S_append (Kd.slice 61 k61) (w0:=w) w.heap.size rfl (.tmp 89) (.tmp 91) 23 59 (.slice none 0 0) 24 rfl Try.underlying23 info59 rfl zab zaa u251001 ag ao [.slice i6 ao.length ju] (fun k_=>k_≠U) (fun k_=>some k_=(.slice i6 ao.length ju:Value).ownBlock) rfl rfl ?aP (fun k_ hk_=>((Kd.R_mono (ok':=fun k_=>((fun k_=>k_≠U)) k_/\some k_≠(u251001:Value).ownBlock) (Kd.R_apart' (HO_11.out) (Kd.S_typed HO_251001.out) zab) (fun k_ hk=>⟨hk.1,hk.2⟩))).1 k_ hk_.symm) ?aF ?aO ?aB ?aS ?aL ?_;(case aP=>exact Kd.M_row (Kd.R_mono (Kd.R_tight rfl (Kd.R_mono (ok':=fun k_=>((fun k_=>k_≠U)) k_/\some k_≠(u251001:Value).ownBlock) (Kd.R_apart' (HO_11.out) (Kd.S_typed HO_251001.out) zab) (fun k_ hk=>⟨hk.1,hk.2⟩))) (fun _ h_=>h_)));(case aB=>exact(hbA HB.out));(case aF=>exact(fun k_ hk=>Kd.freshB (g:=U) (o:= .cells #[.int .i64 J] 3 (0,0)) (bkA I.out) k_ hk));(case aO=>exact(by(with_reducible repeat(first|apply Kd.S_alloc|apply Kd.S_drewN|apply Kd.S_drew));exact Kd.S_mono HO_251001.out (fun k_ hk=>⟨hk.2,fun e_=>hk.1 e_⟩)));(case aS=>exact(below_size (hbA HB.out)));(case aL=>have:=km.out;omega);intro u7 vo ho hb hg hat;rw[<-ls.out]at ho;have n0_:=aK (Kd.R_over' (kdA HO_251000.out) (Kd.S_typed (by(with_reducible repeat(first|apply Kd.S_alloc|apply Kd.S_drewN|apply Kd.S_drew));exact HO_251001.out)) zab hg);have n1_:=aK (blk_grown (g:=a1) (o:= .cells #[.slice a9 al.length ba,.slice (some be) Z.length bb,.slice bd ae.length bc] 25 (0,0)) (bkA G.out) hg (Kd.S_ne HO_251001.out G.out zab));have n2_:=aK (blk_grown (g:=a2) (o:= .cells #[.int .i64 ap,.int .i64 aq,.int .u8 ar,.int .i64 ax] 27 (0,0)) (bkA L.out) hg (Kd.S_ne HO_251001.out L.out zab));have n3_:=aK (blk_grown (g:=an) (o:= .cells #[.slice none 0 0,.slice none 0 0,.slice none 0 0] 25 (0,0)) (bkA O.out) hg (Kd.S_ne HO_251001.out O.out zab));have n4_:=aK (blk_grown (g:=ah) (o:= .cells #[.slice aj Y.length ak,u251001,.slice none 0 0] 25 (0,0)) (bkA D.out) hg (Kd.S_ne HO_251001.out D.out zab));have n5_:=aK (blk_grown (g:=U) (o:= .cells #[.int .i64 J] 3 (0,0)) (bkA I.out) hg (Kd.S_ne HO_251001.out I.out zab));have n6_:=aK (hb);have n7_:=aK (ho);clear HO_251000;clear G;clear L;clear O;clear D;clear I;clear HB;clear HO_251001;clear HO_11;have HO_251000:=n0_;have G:=n1_;have L:=n2_;have O:=n3_;have D:=n4_;have I:=n5_;have HB:=n6_;have ji:=n7_;clear n0_ n1_ n2_ n3_ n4_ n5_ n6_ n7_;clear ho hb hg hat;obtain⟨fz,f7,mc⟩:=Kd.S_slice ji.out;subst mc;obtain⟨g2,g3,g4,iw,ix,iy⟩:=cell3 D))
          go_roundg cz
          case measure=>have:=ca.out;have:=cd.out;have:=cy.out;have:=er.out;omega
          case rel=>exact⟨(wrap64 (af+1)),(fv),(J),(.slice fz fv.length f7),rsE,H',⟨by have:=ca.out;have:=cd.out;have:=cy.out;have:=er.out;omega⟩,⟨by(with_reducible repeat(first|apply Kd.R_alloc|apply Kd.R_drewN|apply Kd.R_drew));exact Kd.R_mono (Kd.R_far (p:=⟨ah,1,none⟩) (Kd.R_types HO_251000.out D.out zab) (fun _ hk=>hk.2) (.slice fz fv.length f7)) (fun _ hk=>trivial)⟩,⟨by(with_reducible repeat(first|apply Kd.S_alloc|apply Kd.S_drewN|apply Kd.S_drew));exact Kd.S_mono (Kd.S_far (p:=⟨ah,1,none⟩) (Kd.S_types ji.out D.out zab) (fun _ hk=>hk.2) (.slice fz fv.length f7)) (fun _ hk=>hk.1)⟩,⟨by refine bkR ?_;refine blk_far ?_ aa.out _;refine bkR ?_;exact G.out⟩,⟨by refine bkR ?_;refine blk_far ?_ ab.out _;refine bkR ?_;exact L.out⟩,⟨by refine bkR ?_;refine blk_far ?_ ac.out _;refine bkR ?_;exact O.out⟩,⟨by refine bkR ?_;refine blk_put (cs:= #[.slice aj Y.length ak,u251001,.slice none 0 0]) ?_ 1 _ rfl;refine bkR ?_;exact D.out⟩,⟨by refine bkR ?_;refine blk_far ?_ am.out _;refine bkR ?_;exact I.out⟩,⟨hbA HB.out⟩⟩
         subst jp;rw[if_pos rfl]at H
         obtain⟨cf,nw,H⟩:=bindO H
         (try dsimp only at H)
         by_cases f3:cf<0
         ·rw[if_pos f3]at H
          have c85b0:decide (cf<0)=true:=decide_eq_true f3;clear f3;by_cases jq:ao.length<1000001
          case neg=>rw[if_neg jq]at H;exact absurd H zac
          rw[if_pos jq]at H
          have lh:=aK jq;clear jq;obtain⟨fp,ed⟩: ∃y_:List (S61),y_=(insN ao.length (⟨J,ce⟩:S61) ao):=⟨_,rfl⟩
          replace H:(if ag.length<5864062014805 then(share_taken.l0 cz 0 Z (Z.length:Int) (wrap64 (af+1)) al Z ae ap aq ar ax Y (ag++ [fp]) J 0)else(none))=some (r1,r2,r3):=zH ed H
          have ln:=aK ed;clear ed;by_cases jr:ag.length<5864062014805
          case neg=>rw[if_neg jr]at H;exact absurd H zac
          rw[if_pos jr]at H
          have ll:=aK jr;clear jr;obtain⟨fq,ee⟩: ∃y_:List (List (S61)),y_=(ag++ [fp]):=⟨_,rfl⟩
          replace H:(share_taken.l0 cz 0 Z (Z.length:Int) (wrap64 (af+1)) al Z ae ap aq ar ax Y fq J 0)=some (r1,r2,r3):=zH ee H
          have lp:=aK ee;clear ee;have H':=aK H;clear H;have si:=a3.out;have t0:=ay.out;have sj:=a4.out;have t1:=az.out;have sk:=a5.out;have t2:=a0.out;have sl:=am.out;have t3:=av.out;obtain⟨j4,j5,j8,j9⟩:=cell2o I;obtain⟨i8,jw,ol⟩:=Kd.R_slice HO_11.out;subst ol
          go_wp2_with (first|((with_reducible refine gC 45 rfl ?_);refine cG (some 76) Try.func45 #[.slice i8 ao.length jw,.func (.func 46) #[] #[.pointer (some ⟨U,0,none⟩)]] ?_;(with_reducible refine(api_Term_45.calls U _ _ ao J cf _ (bkA I.out) ?side1 ?side2 nw.out).mono ?_);(case side1=>exact kcA (Kd.R_reads' HO_11.out).2.2);(case side2=>exact(Kd.R_reads' HO_11.out).2.1);rintro e oo ⟨rfl,hb⟩;refine⟨_,rfl,?_⟩;replace HO_11:=kdB HO_11 hb;replace HO_251000:=kdB HO_251000 hb;replace HO_251001:=aK (Kd.S_below (by(with_reducible repeat(first|apply Kd.S_alloc|apply Kd.S_drewN|apply Kd.S_drew));exact HO_251001.out) hb);replace G:=bkB G hb;replace L:=bkB L hb;replace O:=bkB O hb;replace D:=bkB D hb;replace I:=bkB I hb;replace HB:=hbB HB hb;(try clear hb);obtain⟨j6,j7,ka,kb⟩:=cell2o I)|((with_reducible refine gC 47 rfl ?_);refine cG (some 87) Try.func47 #[(.slice i8 ao.length jw),.int .i64 (ao.length:Int),.slice (some ⟨oo.heap.size,0,none⟩) 1 1] ?_;refine(slices_Insert.callsI w.heap.size (fun k_=>k_≠U) w (.slice i8 ao.length jw) ao (ao.length:Int) (ao.length) (⟨J,ce⟩:S61) oo.heap.size _ rfl (kdA HO_11.out) (blk_new _ _) (fun e_=>absurd (Kd.R_lt HO_11.out _ e_.symm) (Nat.lt_irrefl _)) (Nat.le_refl _) (by have:=lh.out;omega) (hbA HB.out) (below_size (hbA HB.out)) (fun k_ hk=>Kd.freshB (g:=U) (o:= .cells #[.int .i64 J] 3 (0,0)) (bkA I.out) k_ hk)).mono ?_;rintro e wd ⟨u3,rfl,ho,hb,hg,hat⟩;refine⟨_,rfl,?_⟩;rw[<-ln.out]at ho;have n0_:=aK (Kd.R_over' (kdA HO_251000.out) (Kd.R_typed (kdA HO_11.out)) zab hg);have n1_:=aK (Kd.S_after (ok:=(fun k_=>k_≠U)) (by(with_reducible repeat(first|apply Kd.S_alloc|apply Kd.S_drewN|apply Kd.S_drew));exact Kd.S_mono HO_251001.out (fun _ hk=>⟨hk.2,hk.1⟩)) hg hat);have n2_:=aK (blk_grown (g:=a1) (o:= .cells #[.slice a9 al.length ba,.slice (some be) Z.length bb,.slice bd ae.length bc] 25 (0,0)) (bkA G.out) hg (Kd.R_ne HO_11.out G.out zab));have n3_:=aK (blk_grown (g:=a2) (o:= .cells #[.int .i64 ap,.int .i64 aq,.int .u8 ar,.int .i64 ax] 27 (0,0)) (bkA L.out) hg (Kd.R_ne HO_11.out L.out zab));have n4_:=aK (blk_grown (g:=an) (o:= .cells #[.slice none 0 0,.slice none 0 0,.slice none 0 0] 25 (0,0)) (bkA O.out) hg (Kd.R_ne HO_11.out O.out zab));have n5_:=aK (blk_grown (g:=ah) (o:= .cells #[.slice aj Y.length ak,u251001,.slice none 0 0] 25 (0,0)) (bkA D.out) hg (Kd.R_ne HO_11.out D.out zab));have n6_:=aK (blk_grown (g:=U) (o:= .cells #[.int .i64 J] 3 (0,0)) (bkA I.out) hg (Kd.R_away HO_11.out (fun _ hk=>hk)));have n7_:=aK (hb);have n8_:=aK (ho);clear HO_251000;clear HO_251001;clear G;clear L;clear O;clear D;clear I;clear HB;clear HO_11;have HO_251000:=n0_;have HO_251001:=n1_;have G:=n2_;have L:=n3_;have O:=n4_;have D:=n5_;have I:=n6_;have HB:=n7_;have e2:=n8_;clear n0_ n1_ n2_ n3_ n4_ n5_ n6_ n7_ n8_;clear ho hb hg hat;have sm:=a6.out;have t4:=aa.out;have sn:=a7.out;have t5:=ab.out;have so:=a8.out;have t6:=ac.out;obtain⟨gg,gh,gi,g8,g9,ia⟩:=cell3 D;obtain⟨i4,js,l6⟩:=Kd.R_slice e2.out;subst l6)|((with_reducible refine gate_builtin (b:= .append) (xs:= #[.tmp 89,.tmp 91]) rfl ?_);at_builtin;refine Kd.S_append (Kd.slice 61 k61) (w0:=w) w.heap.size rfl (.tmp 89) (.tmp 91) 23 59 (.slice none 0 0) 24 rfl Try.underlying23 info59 rfl zab zaa u251001 ag fp [.slice i4 fp.length js] (fun k_=>k_≠U) (fun k_=>some k_=(.slice i4 fp.length js:Value).ownBlock) rfl rfl ?aP (fun k_ hk_=>((Kd.R_mono (ok':=fun k_=>((fun k_=>k_≠U)) k_/\some k_≠(u251001:Value).ownBlock) (Kd.R_apart' (e2.out) (Kd.S_typed HO_251001.out) zab) (fun k_ hk=>⟨hk.1,hk.2⟩))).1 k_ hk_.symm) ?aF ?aO ?aB ?aS ?aL ?_;(case aP=>exact Kd.M_row (Kd.R_mono (Kd.R_tight rfl (Kd.R_mono (ok':=fun k_=>((fun k_=>k_≠U)) k_/\some k_≠(u251001:Value).ownBlock) (Kd.R_apart' (e2.out) (Kd.S_typed HO_251001.out) zab) (fun k_ hk=>⟨hk.1,hk.2⟩))) (fun _ h_=>h_)));(case aB=>exact(hbA HB.out));(case aF=>exact(fun k_ hk=>Kd.freshB (g:=U) (o:= .cells #[.int .i64 J] 3 (0,0)) (bkA I.out) k_ hk));(case aO=>exact(by(with_reducible repeat(first|apply Kd.S_alloc|apply Kd.S_drewN|apply Kd.S_drew));exact Kd.S_mono HO_251001.out (fun k_ hk=>⟨hk.1,fun e_=>hk.2 e_⟩)));(case aS=>exact(below_size (hbA HB.out)));(case aL=>have:=ll.out;omega);intro u4 vl ho hb hg hat;rw[<-lp.out]at ho;have n0_:=aK (Kd.R_over' (kdA HO_251000.out) (Kd.S_typed (by(with_reducible repeat(first|apply Kd.S_alloc|apply Kd.S_drewN|apply Kd.S_drew));exact HO_251001.out)) zab hg);have n1_:=aK (blk_grown (g:=a1) (o:= .cells #[.slice a9 al.length ba,.slice (some be) Z.length bb,.slice bd ae.length bc] 25 (0,0)) (bkA G.out) hg (Kd.S_ne HO_251001.out G.out zab));have n2_:=aK (blk_grown (g:=a2) (o:= .cells #[.int .i64 ap,.int .i64 aq,.int .u8 ar,.int .i64 ax] 27 (0,0)) (bkA L.out) hg (Kd.S_ne HO_251001.out L.out zab));have n3_:=aK (blk_grown (g:=an) (o:= .cells #[.slice none 0 0,.slice none 0 0,.slice none 0 0] 25 (0,0)) (bkA O.out) hg (Kd.S_ne HO_251001.out O.out zab));have n4_:=aK (blk_grown (g:=ah) (o:= .cells #[.slice aj Y.length ak,u251001,.slice none 0 0] 25 (0,0)) (bkA D.out) hg (Kd.S_ne HO_251001.out D.out zab));have n5_:=aK (blk_grown (g:=U) (o:= .cells #[.int .i64 J] 3 (0,0)) (bkA I.out) hg (Kd.S_ne HO_251001.out I.out zab));have n6_:=aK (hb);have n7_:=aK (ho);clear HO_251000;clear G;clear L;clear O;clear D;clear I;clear HB;clear HO_251001;clear e2;have HO_251000:=n0_;have G:=n1_;have L:=n2_;have O:=n3_;have D:=n4_;have I:=n5_;have HB:=n6_;have jg:=n7_;clear n0_ n1_ n2_ n3_ n4_ n5_ n6_ n7_;clear ho hb hg hat;obtain⟨fw,f4,l7⟩:=Kd.S_slice jg.out;subst l7;obtain⟨gj,gl,gm,ib,ic,ie⟩:=cell3 D))
          go_roundg cz
          case measure=>have:=ca.out;have:=cd.out;have:=cy.out;have:=er.out;omega
          case rel=>exact⟨(wrap64 (af+1)),(fq),(J),(.slice fw fq.length f4),rsE,H',⟨by have:=ca.out;have:=cd.out;have:=cy.out;have:=er.out;omega⟩,⟨by(with_reducible repeat(first|apply Kd.R_alloc|apply Kd.R_drewN|apply Kd.R_drew));exact Kd.R_mono (Kd.R_far (p:=⟨ah,1,none⟩) (Kd.R_types HO_251000.out D.out zab) (fun _ hk=>hk.2) (.slice fw fq.length f4)) (fun _ hk=>trivial)⟩,⟨by(with_reducible repeat(first|apply Kd.S_alloc|apply Kd.S_drewN|apply Kd.S_drew));exact Kd.S_mono (Kd.S_far (p:=⟨ah,1,none⟩) (Kd.S_types jg.out D.out zab) (fun _ hk=>hk.2) (.slice fw fq.length f4)) (fun _ hk=>hk.1)⟩,⟨by refine bkR ?_;refine blk_far ?_ aa.out _;refine bkR ?_;exact G.out⟩,⟨by refine bkR ?_;refine blk_far ?_ ab.out _;refine bkR ?_;exact L.out⟩,⟨by refine bkR ?_;refine blk_far ?_ ac.out _;refine bkR ?_;exact O.out⟩,⟨by refine bkR ?_;refine blk_put (cs:= #[.slice aj Y.length ak,u251001,.slice none 0 0]) ?_ 1 _ rfl;refine bkR ?_;exact D.out⟩,⟨by refine bkR ?_;refine blk_far ?_ am.out _;refine bkR ?_;exact I.out⟩,⟨hbA HB.out⟩⟩
         rw[if_neg f3]at H
         have c85b0:decide (cf<0)=false:=decide_eq_false f3;have lg:=aK c85b0;clear f3;by_cases e7:(ao.length<1000001/\cf.toNat<=ao.length)
         case neg=>rw[if_neg e7]at H;exact absurd H zac
         rw[if_pos e7]at H
         have f9:=aK e7;clear e7;obtain⟨ft,ef⟩: ∃y_:List (S61),y_=(insN cf.toNat (⟨J,ce⟩:S61) ao):=⟨_,rfl⟩
         replace H:(if ag.length<5864062014805 then(share_taken.l0 cz 0 Z (Z.length:Int) (wrap64 (af+1)) al Z ae ap aq ar ax Y (ag++ [ft]) J 0)else(none))=some (r1,r2,r3):=zH ef H
         have lq:=aK ef;clear ef;by_cases e8:ag.length<5864062014805
         case neg=>rw[if_neg e8]at H;exact absurd H zac
         rw[if_pos e8]at H
         have kk:=aK e8;clear e8;obtain⟨fu,eh⟩: ∃y_:List (List (S61)),y_=(ag++ [ft]):=⟨_,rfl⟩
         replace H:(share_taken.l0 cz 0 Z (Z.length:Int) (wrap64 (af+1)) al Z ae ap aq ar ax Y fu J 0)=some (r1,r2,r3):=zH eh H
         have lr:=aK eh;clear eh;have H':=aK H;clear H;have op:=a3.out;have pq:=ay.out;have oq:=a4.out;have pr:=az.out;have os:=a5.out;have pt:=a0.out;have ot:=am.out;have pv:=av.out;obtain⟨gn,gp,ig,ii⟩:=cell2o I;obtain⟨fx,f5,l8⟩:=Kd.R_slice HO_11.out;subst l8
         go_wp2_with (first|((with_reducible refine gC 45 rfl ?_);refine cG (some 76) Try.func45 #[.slice fx ao.length f5,.func (.func 46) #[] #[.pointer (some ⟨U,0,none⟩)]] ?_;(with_reducible refine(api_Term_45.calls U _ _ ao J cf _ (bkA I.out) ?side1 ?side2 nw.out).mono ?_);(case side1=>exact kcA (Kd.R_reads' HO_11.out).2.2);(case side2=>exact(Kd.R_reads' HO_11.out).2.1);rintro e k5 ⟨rfl,hb⟩;refine⟨_,rfl,?_⟩;replace HO_11:=kdB HO_11 hb;replace HO_251000:=kdB HO_251000 hb;replace HO_251001:=aK (Kd.S_below (by(with_reducible repeat(first|apply Kd.S_alloc|apply Kd.S_drewN|apply Kd.S_drew));exact HO_251001.out) hb);replace G:=bkB G hb;replace L:=bkB L hb;replace O:=bkB O hb;replace D:=bkB D hb;replace I:=bkB I hb;replace HB:=hbB HB hb;(try clear hb);obtain⟨gq,gr,ij,ik⟩:=cell2o I)|((with_reducible refine gC 47 rfl ?_);refine cG (some 87) Try.func47 #[(.slice fx ao.length f5),.int .i64 cf,.slice (some ⟨k5.heap.size,0,none⟩) 1 1] ?_;refine(slices_Insert.callsI w.heap.size (fun k_=>k_≠U) w (.slice fx ao.length f5) ao cf (cf.toNat) (⟨J,ce⟩:S61) k5.heap.size _ (Int.toNat_of_nonneg (by have:=of_decide_eq_false lg.out;omega)).symm (kdA HO_11.out) (blk_new _ _) (fun e_=>absurd (Kd.R_lt HO_11.out _ e_.symm) (Nat.lt_irrefl _)) f9.out.2 (by have:=f9.out.1;omega) (hbA HB.out) (below_size (hbA HB.out)) (fun k_ hk=>Kd.freshB (g:=U) (o:= .cells #[.int .i64 J] 3 (0,0)) (bkA I.out) k_ hk)).mono ?_;rintro e vm ⟨u5,rfl,ho,hb,hg,hat⟩;refine⟨_,rfl,?_⟩;rw[<-lq.out]at ho;have n0_:=aK (Kd.R_over' (kdA HO_251000.out) (Kd.R_typed (kdA HO_11.out)) zab hg);have n1_:=aK (Kd.S_after (ok:=(fun k_=>k_≠U)) (by(with_reducible repeat(first|apply Kd.S_alloc|apply Kd.S_drewN|apply Kd.S_drew));exact Kd.S_mono HO_251001.out (fun _ hk=>⟨hk.2,hk.1⟩)) hg hat);have n2_:=aK (blk_grown (g:=a1) (o:= .cells #[.slice a9 al.length ba,.slice (some be) Z.length bb,.slice bd ae.length bc] 25 (0,0)) (bkA G.out) hg (Kd.R_ne HO_11.out G.out zab));have n3_:=aK (blk_grown (g:=a2) (o:= .cells #[.int .i64 ap,.int .i64 aq,.int .u8 ar,.int .i64 ax] 27 (0,0)) (bkA L.out) hg (Kd.R_ne HO_11.out L.out zab));have n4_:=aK (blk_grown (g:=an) (o:= .cells #[.slice none 0 0,.slice none 0 0,.slice none 0 0] 25 (0,0)) (bkA O.out) hg (Kd.R_ne HO_11.out O.out zab));have n5_:=aK (blk_grown (g:=ah) (o:= .cells #[.slice aj Y.length ak,u251001,.slice none 0 0] 25 (0,0)) (bkA D.out) hg (Kd.R_ne HO_11.out D.out zab));have n6_:=aK (blk_grown (g:=U) (o:= .cells #[.int .i64 J] 3 (0,0)) (bkA I.out) hg (Kd.R_away HO_11.out (fun _ hk=>hk)));have n7_:=aK (hb);have n8_:=aK (ho);clear HO_251000;clear HO_251001;clear G;clear L;clear O;clear D;clear I;clear HB;clear HO_11;have HO_251000:=n0_;have HO_251001:=n1_;have G:=n2_;have L:=n3_;have O:=n4_;have D:=n5_;have I:=n6_;have HB:=n7_;have e3:=n8_;clear n0_ n1_ n2_ n3_ n4_ n5_ n6_ n7_ n8_;clear ho hb hg hat;have ou:=a6.out;have pw:=aa.out;have ov:=a7.out;have px:=ab.out;have ow:=a8.out;have py:=ac.out;obtain⟨gs,gu,gv,il,im,io⟩:=cell3 D;obtain⟨i5,jt,l9⟩:=Kd.R_slice e3.out;subst l9)|((with_reducible refine gate_builtin (b:= .append) (xs:= #[.tmp 89,.tmp 91]) rfl ?_);at_builtin;refine Kd.S_append (Kd.slice 61 k61) (w0:=w) w.heap.size rfl (.tmp 89) (.tmp 91) 23 59 (.slice none 0 0) 24 rfl Try.underlying23 info59 rfl zab zaa u251001 ag ft [.slice i5 ft.length jt] (fun k_=>k_≠U) (fun k_=>some k_=(.slice i5 ft.length jt:Value).ownBlock) rfl rfl ?aP (fun k_ hk_=>((Kd.R_mono (ok':=fun k_=>((fun k_=>k_≠U)) k_/\some k_≠(u251001:Value).ownBlock) (Kd.R_apart' (e3.out) (Kd.S_typed HO_251001.out) zab) (fun k_ hk=>⟨hk.1,hk.2⟩))).1 k_ hk_.symm) ?aF ?aO ?aB ?aS ?aL ?_;(case aP=>exact Kd.M_row (Kd.R_mono (Kd.R_tight rfl (Kd.R_mono (ok':=fun k_=>((fun k_=>k_≠U)) k_/\some k_≠(u251001:Value).ownBlock) (Kd.R_apart' (e3.out) (Kd.S_typed HO_251001.out) zab) (fun k_ hk=>⟨hk.1,hk.2⟩))) (fun _ h_=>h_)));(case aB=>exact(hbA HB.out));(case aF=>exact(fun k_ hk=>Kd.freshB (g:=U) (o:= .cells #[.int .i64 J] 3 (0,0)) (bkA I.out) k_ hk));(case aO=>exact(by(with_reducible repeat(first|apply Kd.S_alloc|apply Kd.S_drewN|apply Kd.S_drew));exact Kd.S_mono HO_251001.out (fun k_ hk=>⟨hk.1,fun e_=>hk.2 e_⟩)));(case aS=>exact(below_size (hbA HB.out)));(case aL=>have:=kk.out;omega);intro u6 vn ho hb hg hat;rw[<-lr.out]at ho;have n0_:=aK (Kd.R_over' (kdA HO_251000.out) (Kd.S_typed (by(with_reducible repeat(first|apply Kd.S_alloc|apply Kd.S_drewN|apply Kd.S_drew));exact HO_251001.out)) zab hg);have n1_:=aK (blk_grown (g:=a1) (o:= .cells #[.slice a9 al.length ba,.slice (some be) Z.length bb,.slice bd ae.length bc] 25 (0,0)) (bkA G.out) hg (Kd.S_ne HO_251001.out G.out zab));have n2_:=aK (blk_grown (g:=a2) (o:= .cells #[.int .i64 ap,.int .i64 aq,.int .u8 ar,.int .i64 ax] 27 (0,0)) (bkA L.out) hg (Kd.S_ne HO_251001.out L.out zab));have n3_:=aK (blk_grown (g:=an) (o:= .cells #[.slice none 0 0,.slice none 0 0,.slice none 0 0] 25 (0,0)) (bkA O.out) hg (Kd.S_ne HO_251001.out O.out zab));have n4_:=aK (blk_grown (g:=ah) (o:= .cells #[.slice aj Y.length ak,u251001,.slice none 0 0] 25 (0,0)) (bkA D.out) hg (Kd.S_ne HO_251001.out D.out zab));have n5_:=aK (blk_grown (g:=U) (o:= .cells #[.int .i64 J] 3 (0,0)) (bkA I.out) hg (Kd.S_ne HO_251001.out I.out zab));have n6_:=aK (hb);have n7_:=aK (ho);clear HO_251000;clear G;clear L;clear O;clear D;clear I;clear HB;clear HO_251001;clear e3;have HO_251000:=n0_;have G:=n1_;have L:=n2_;have O:=n3_;have D:=n4_;have I:=n5_;have HB:=n6_;have jh:=n7_;clear n0_ n1_ n2_ n3_ n4_ n5_ n6_ n7_;clear ho hb hg hat;obtain⟨fy,f6,ma⟩:=Kd.S_slice jh.out;subst ma;obtain⟨gw,gx,gy,ip,iq,ir⟩:=cell3 D))
         go_roundg cz
         case measure=>have:=ca.out;have:=cd.out;have:=cy.out;have:=er.out;omega
         case rel=>exact⟨(wrap64 (af+1)),(fu),(J),(.slice fy fu.length f6),rsE,H',⟨by have:=ca.out;have:=cd.out;have:=cy.out;have:=er.out;omega⟩,⟨by(with_reducible repeat(first|apply Kd.R_alloc|apply Kd.R_drewN|apply Kd.R_drew));exact Kd.R_mono (Kd.R_far (p:=⟨ah,1,none⟩) (Kd.R_types HO_251000.out D.out zab) (fun _ hk=>hk.2) (.slice fy fu.length f6)) (fun _ hk=>trivial)⟩,⟨by(with_reducible repeat(first|apply Kd.S_alloc|apply Kd.S_drewN|apply Kd.S_drew));exact Kd.S_mono (Kd.S_far (p:=⟨ah,1,none⟩) (Kd.S_types jh.out D.out zab) (fun _ hk=>hk.2) (.slice fy fu.length f6)) (fun _ hk=>hk.1)⟩,⟨by refine bkR ?_;refine blk_far ?_ aa.out _;refine bkR ?_;exact G.out⟩,⟨by refine bkR ?_;refine blk_far ?_ ab.out _;refine bkR ?_;exact L.out⟩,⟨by refine bkR ?_;refine blk_far ?_ ac.out _;refine bkR ?_;exact O.out⟩,⟨by refine bkR ?_;refine blk_put (cs:= #[.slice aj Y.length ak,u251001,.slice none 0 0]) ?_ 1 _ rfl;refine bkR ?_;exact D.out⟩,⟨by refine bkR ?_;refine blk_far ?_ am.out _;refine bkR ?_;exact I.out⟩,⟨hbA HB.out⟩⟩
end Go.Proofs.Ytnfemjnajfdepaa.Q
