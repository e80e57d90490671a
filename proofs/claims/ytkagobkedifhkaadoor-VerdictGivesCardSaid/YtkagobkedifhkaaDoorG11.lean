/- Texts of the proof of VerdictGives: what each Go function answers, and what the answers mean; no condition beyond each theorem's own. -/
import Derived.Below
import Derived.Deep.Draws
import Derived.Deep.AppendLies
import Derived.Maps.AppendAt
import Derived.OwnWalk
import Derived.Laws.BytesArg
import Derived.Laws.MakeOwn
import Derived.Laws.OwnMore
import Derived.Deep.OwnRows
import Derived.Tactics
import Derived.Lib.ConvBytes
import Derived.Laws.Slices
import Derived.WalkKit
import Derived.KernelRfl
import Derived.RowKit3
import Derived.Deep.LoopGhost
import Derived.Deep.QuietTactic
import Derived.BigQuiet
import Derived.WideLaws
import Derived.Deep.DeepCutAuto
import Derived.Deep.CutBlock
import Derived.Deep.RegionHeld3
import Derived.Laws.Rows
import Derived.Lib.AppendStr
import Derived.ArgAppend
import Derived.Laws.IdiomCopy
import Derived.RowKit
import Derived.OrdersHeld
import Derived.Laws.BitsLemmas
import Derived.Laws.StructEq
import Derived.SizedLaws
import Derived.ChangeSlices
import Derived.OwnWalkIn
import Derived.TacticsInMore
import Derived.Test.YtkagobkedifhkaaDoorShelf
import Derived.Test.YtkagobkedifhkaaDoorProg
import Derived.Shelf.Spec.TrailingZeros
import Derived.Deep.WholeRow
import Derived.Laws.NewBlocks
import Derived.Laws.CopyOwn
import Derived.ScopeJumps
import Derived.WalkMore
import Derived.WalkSpells
namespace Go.Proofs.YtkagobkedifhkaaDoorW.PrintWords
set_option linter.unusedVariables false
set_option linter.unusedSimpArgs false
open Go.RowKit
structure Aside0 (p:Prop):Prop where mk::(out:p)
structure Drawn0 (w w':World):Prop where mk::(out: ∃n,w'=w.drewN n)
theorem Drawn0.refl(w:World):Drawn0 w w:=⟨⟨0,rfl⟩⟩
theorem Drawn0.step{w w':World}(h:Drawn0 w w')(n:Nat):Drawn0 w (w'.drewN n):=by
 obtain⟨m,rfl⟩:=h;exact⟨⟨m+n,World.drewN_drewN ..⟩⟩
def rd(xs:List Int)(i:Int):Int:=xs.getD i.toNat 0
def nums(k:IntKind)(xs:List Int):List Value:=xs.map fun x=> .int k x
theorem below_alloc{w W:World}(h:Below w.heap.size w W)(o:Obj):Below w.heap.size w (W.alloc o):=h.alloc h.size o
theorem below_drew{B:Nat}{w W:World}(h:Below B w W):Below B w W.drew:=⟨h.os,h.tape,h.output,h.size,h.block⟩
theorem pw_below_drewN{B:Nat}{w W:World}(h:Below B w W)(n:Nat):Below B w (W.drewN n):=⟨h.os,h.tape,h.output,h.size,h.block⟩
theorem below_then{B:Nat}{w w1 w2:World}(h:Below B w w1)(hB:B≤w1.heap.size)(k:Below w1.heap.size w1 w2):Below B w w2:=
 h.trans ⟨k.os,k.tape,k.output,k.size,fun i hi=>k.block i (Nat.lt_of_lt_of_le hi hB)⟩
theorem pw_cell_below{w w1:World}(h:Below w.heap.size w w1){a:Addr}{v:Value}(hc:w.cell? a=some v):w1.cell? a=some v:=(h.cell (World.block_lt_of_cell? w a hc)).trans hc
theorem add_plain(g j:Nat):(⟨g,0,none⟩:Addr).add j=⟨g,j,none⟩:=by unfold Addr.add;split<;>simp_all
def ReadsInt(w:World)(k:IntKind)(A:Option Addr)(n:Nat)(xs:List Int):Prop:=
 xs.length=n∧n≤9223372036854775807∧(0<n→ ∃ad,A=some ad∧ ∀j,j<n→w.cell? (ad.add j)=some (.int k (xs.getD j 0)))
theorem ReadsInt.at_{w:World}{k:IntKind}{A:Option Addr}{n:Nat}{xs:List Int}(h:ReadsInt w k A n xs)(i:Int)(h0:0≤i)(h1:i<n): ∃ad,A=some ad∧w.cell? (ad.add i.toNat)=some (.int k (rd xs i)):=by
 obtain⟨ad,e,hc⟩:=h.2.2 (by omega);exact⟨ad,e,hc _ (by omega)⟩
theorem own_nil(W:World)(base:Nat)(e:TypeId)(size:Nat):W.ownsRow base e size (.slice none 0 0) 0 []:=⟨by simp,.inl ⟨rfl,rfl⟩⟩
theorem own_base{w:World}{base:Nat}{e:TypeId}{size n:Nat}{v:Value}{xs:List Value}(h:w.ownsRow base e size v n xs)(k:Nat)(hk:v.ownBlock=some k):base≤k:=by
 rcases h.2 with⟨rfl,_⟩|⟨g,cap,cur,rfl,hb,_⟩
 ·simp[Value.ownBlock]at hk
 ·have:g=k:=by simpa[Value.ownBlock]using hk
  omega
theorem own_lt{w:World}{base:Nat}{e:TypeId}{size n:Nat}{v:Value}{xs:List Value}(h:w.ownsRow base e size v n xs)(k:Nat)(hk:v.ownBlock=some k):k<w.heap.size:=by
 rcases h.2 with⟨rfl,_⟩|⟨g,cap,cur,rfl,hb,hh,_⟩
 ·simp[Value.ownBlock]at hk
 ·have:g=k:=by simpa[Value.ownBlock]using hk
  subst this;exact(Array.getElem?_eq_some_iff.1 hh).1
section
variable {P:Program}
theorem print_make(t e:TypeId)(k:IntKind)(bytes:Nat)(ht:P.underlying t=some (.slice e))(hinfo:(P.info? e).map (fun i=>(i.zero,i.size,i.bytes))=some (some (.int k 0),1,bytes))(hb0:0<bytes)
 (m:Nat) (hn:m*bytes≤281474976710656):
 ∀W:World,(Instr.makeSlice t (.int .i64 (m:Int)) (.int .i64 (m:Int))).run P W= .ok (.slice (some ⟨W.heap.size,0,none⟩) m m) (W.alloc (.cells (madeCells #[.int k 0] m) e)):=by
 intro W;have hm:m≤281474976710656:=Nat.le_trans (Nat.le_mul_of_pos_right _ hb0) hn;exact run_make_row' t e (.int k 0) bytes ht hinfo rfl .i64 .i64 m (by rw[Nat.mul_comm];exact hn) (by omega) W
end
theorem own_made(W:World)(base:Nat)(e:TypeId)(k:IntKind)(m:Nat)(hb:base≤W.heap.size)(hm:m≤9223372036854775807):
 (W.alloc (.cells (madeCells #[.int k 0] m) e)).ownsRow base e 1 (.slice (some ⟨W.heap.size,0,none⟩) m m) m (nums k (List.replicate m 0)):=by
 have h:=World.ownsRow_lit (base:=base) (e:=e) (size:=1) W (madeCells #[.int k 0] m) m hb (by simpa[maxLen]using hm) (by simp[size_madeCells]);have hl:(madeCells #[Value.int k 0] m).toList=nums k (List.replicate m 0):=by
  apply List.ext_getElem
  ·simp[nums,madeCells]
  ·intro i h1 h2;simp[nums,madeCells,Nat.mod_one]
 rwa [hl]at h
theorem own_at{W:World}{base g n cap:Nat}{e:TypeId}{k:IntKind}{xs:List Int}(h:W.ownsRow base e 1 (.slice (some ⟨g,0,none⟩) n cap) n (nums k xs))(i:Int)(h0:0≤i)(h1:i<n):
 W.cell? ⟨g,i.toNat,none⟩=some (.int k (rd xs i))∧W.frozen? ⟨g,i.toNat,none⟩=false:=by
 have hl:xs.length=n:=by have:=h.1;simp[nums]at this;exact this
 constructor
 ·have hc:=h.cells (g:=g) rfl i.toNat (.int k (rd xs i)) (by simp[nums,rd,List.getElem?_eq_getElem (show i.toNat<xs.length by omega),List.getD_eq_getElem?_getD])
  rwa [add_plain]at hc
 ·rcases h.2 with⟨h',_⟩|⟨g',cap',cur,h',_,hh,_⟩
  ·cases h'
  ·have:g=g':=by injection h' with h';injection h' with h';injection h' with h'
   subst this;simp[World.frozen?,hh]
theorem own_store{W:World}{base g n cap:Nat}{e:TypeId}{k:IntKind}{xs:List Int}(h:W.ownsRow base e 1 (.slice (some ⟨g,0,none⟩) n cap) n (nums k xs))(i x:Int):
 (W.setCell ⟨g,i.toNat,none⟩ (.int k x)).ownsRow base e 1 (.slice (some ⟨g,0,none⟩) n cap) n (nums k (xs.set i.toNat x))∧W.grownBy (W.setCell ⟨g,i.toNat,none⟩ (.int k x)) (some g):=by
 have hs:=h.stored i.toNat (.int k x);have he:(nums k xs).set i.toNat (.int k x)=nums k (xs.set i.toNat x):=by simp[nums,List.map_set]
 rwa [he]at hs
def LeO{α:Type}(a b:Option α):Prop:= ∀r,a=some r→b=some r
theorem LeO.refl{α:Type}(a:Option α):LeO a a:=fun _ h=>h
theorem LeO.trans{α:Type}{a b c:Option α}(h:LeO a b)(k:LeO b c):LeO a c:=fun r hr=>k r (h r hr)
theorem LeO.ite{α:Type}{c:Prop} [Decidable c]{a a' b b':Option α}(h:LeO a a')(k:LeO b b'):LeO (if c then a else b) (if c then a' else b'):=by
 split
 ·exact h
 ·exact k
theorem LeO.bind{α β:Type}{a a':Option α}{f f':α→Option β}(h:LeO a a')(k: ∀x,LeO (f x) (f' x)):LeO (a.bind f) (a'.bind f'):=by
 intro r hr;obtain⟨x,hx,hf⟩:=Option.bind_eq_some_iff.1 hr;exact Option.bind_eq_some_iff.2 ⟨x,h x hx,k x r hf⟩
theorem more_rounds{α:Type}{g:Nat→Option α}(h: ∀k,LeO (g k) (g (k+1)))(k:Nat): ∀j,LeO (g k) (g (k+j))
 |0=>LeO.refl _
 |j+1=>(more_rounds h k j).trans (h (k+j))
def Reps{α:Type}(R:α→List Value→Prop)(size:Nat)(ps:List α)(cs:List Value):Prop:=
 cs.length=ps.length*size∧ ∀j p,ps[j]? =some p→R p ((cs.drop (j*size)).take size)
theorem Reps.none{α:Type}(R:α→List Value→Prop)(size:Nat):Reps R size [] []:=⟨by simp,fun j p h=>by simp at h⟩
theorem Reps.snoc{α:Type}{R:α→List Value→Prop}{size:Nat}{ps:List α}{cs c:List Value}{p:α}(h:Reps R size ps cs)(hp:R p c)(hc:c.length=size):Reps R size (ps++ [p]) (cs++c):=by
 refine⟨by rw[List.length_append,h.1,hc,List.length_append,List.length_singleton,Nat.add_mul,Nat.one_mul],fun j q hq=>?_⟩;rcases Nat.lt_or_ge j ps.length with hj|hj
 ·rw[List.getElem?_append_left hj]at hq
  have h1:j*size+size≤cs.length:=by rw[h.1,←Nat.succ_mul];exact Nat.mul_le_mul_right _ hj
  have h2:=h.2 j q hq;rw[List.drop_append_of_le_length (by omega),List.take_append_of_le_length (by rw[List.length_drop];omega)];exact h2
 ·have hj':j=ps.length:=by
   have:=(List.getElem?_eq_some_iff.1 hq).1;rw[List.length_append,List.length_singleton]at this
   omega
  subst hj';have hq':p=q:=by simpa using hq
  subst hq';rw[←h.1,List.drop_left,←hc,List.take_length];exact hp
theorem Reps.imp_{α:Type}{R R':α→List Value→Prop}{size:Nat}{ps:List α}{cs:List Value}(h:Reps R size ps cs)(hR: ∀p c,R p c→R' p c):Reps R' size ps cs:=⟨h.1,fun j p hj=>hR _ _ (h.2 j p hj)⟩
def ReadsRow{α:Type}(R:α→List Value→Prop)(size:Nat)(w:World)(A:Option Addr)(n:Nat)(ps:List α):Prop:=
 ps.length=n∧n≤9223372036854775807∧(0<n→ ∃ad,A=some ad∧ ∀j p,ps[j]? =some p→ ∃c,c.length=size∧R p c∧ ∀i u,c[i]? =some u→w.cell? (ad.add (j*size+i))=some u)
theorem ReadsRow.imp_{α:Type}{R R':α→List Value→Prop}{size:Nat}{w w1:World}{A:Option Addr}{n:Nat}{ps:List α}(h:ReadsRow R size w A n ps)(hb:Below w.heap.size w w1)(hR: ∀p c,R p c→R' p c):ReadsRow R' size w1 A n ps:=
 ⟨h.1,h.2.1,fun hn=>by
  obtain⟨ad,e,hc⟩:=h.2.2 hn;refine⟨ad,e,fun j p hj=>?_⟩;obtain⟨c,hs,hr,hcell⟩:=hc j p hj;exact⟨c,hs,hR _ _ hr,fun i u hu=>pw_cell_below hb (hcell i u hu)⟩⟩
theorem own_reads_row{α:Type}{R:α→List Value→Prop}{w:World}{base n size:Nat}{e:TypeId}{v:Value}{ps:List α}{cs:List Value}(h:w.ownsRow base e size v n cs)(hR:Reps R size ps cs)(hn:ps.length=n):
 ∃A c,v= .slice A n c∧ReadsRow R size w A n ps:=by
 rcases Nat.eq_zero_or_pos n with h0|h0
 ·rcases h.2 with⟨rfl,rfl⟩|⟨g,cap,cur,rfl,_⟩
  ·exact⟨none,0,rfl,hn,by omega,fun hp=>absurd hp (by omega)⟩
  ·exact⟨_,cap,rfl,hn,by omega,fun hp=>absurd hp (by omega)⟩
 ·obtain⟨g,cap,rfl,_,_⟩:=h.form h0;have hm:n≤9223372036854775807:=by
   rcases h.2 with⟨_,h1⟩|⟨g',cap',cur,he,_,_,h1,h2,_⟩
   ·omega
   ·simp only[maxLen]at h2;omega
  refine⟨_,cap,rfl,hn,hm,fun _=>⟨_,rfl,fun j p hj=>⟨(cs.drop (j*size)).take size,?_,hR.2 j p hj,fun i u hu=>?_⟩⟩⟩
  ·have hjl:=(List.getElem?_eq_some_iff.1 hj).1;have h1:j*size+size≤cs.length:=by rw[hR.1,←Nat.succ_mul];exact Nat.mul_le_mul_right _ hjl
   rw[List.length_take,List.length_drop];omega
  ·refine h.cells (g:=g) rfl _ u ?_;rw[List.getElem?_take]at hu
   split at hu
   ·rw[List.getElem?_drop]at hu
    exact hu
   ·cases hu
section
variable {P:Program} {ops:Array Oper} {rest:List Oper} {o:Oper} {a:Act} {Q:Exit→Act→World→Prop}
theorem print_append_cells{w0 W:World}(base:Nat)(hgd:o.guard=none)(s x:Operand)(t e:TypeId)(z:Value)(size bytes:Nat)
 (ho:o.op= .call { callee:= .builtin .append,args:= #[s,x],argTypes:= #[t,t] })
 (ht:P.underlying t=some (.slice e)) (hinfo:(P.info? e).map (fun i=>(i.zero,i.size,i.bytes))=some (some z,size,bytes)) (hz:z.cells.size=size) (hs0:0<size) (hb0:0<bytes)
 (v:Value) (n:Nat) (xs ys:List Value) (hs:a.eval s=v) (hx:a.eval x= .slice (some ⟨W.heap.size,0,none⟩) 1 1) (hys:ys.length=size) (h1: ∀u∈ys,u.oneCell'=true)
 (HO:W.ownsRow base e size v n xs) (HB:Below base w0 W) (hbase:base≤W.heap.size) (hl:(n+1)*bytes≤140737488355328)
 (h: ∀v1 w1,w1.ownsRow base e size v1 (n+1) (xs++ys)→Below base w0 w1→W.grownBy w1 v.ownBlock→(v1.ownBlock=v.ownBlock∨ ∃b,v1.ownBlock=some b∧W.heap.size≤b)→wpList P ops Q rest (a.put o.dst v1) w1):
 wpList P ops Q (o::rest) a (W.alloc (.cells ys.toArray e)):=by
 obtain⟨i0,hi,hzz⟩:=Option.map_eq_some_iff.1 hinfo;simp only[Prod.mk.injEq]at hzz;obtain⟨hz0,hz1,hz2⟩:=hzz;have hlen:n+1≤140737488355328:=Nat.le_trans (Nat.le_mul_of_pos_right _ hb0) hl
 refine wpList_append_own_at (W.alloc (.cells ys.toArray e)) hgd s x t ho base e i0 z size bytes ht hi hz0 hz1 hz2 hz hs0 v n xs hs (HO.alloc _) ⟨W.heap.size,0,none⟩ 1 1 ys hx (by rw[hys];simp)
  (by simpa using World.news_of_block (cs:=ys.toArray) (t:=e) (fr:=(0,0)) (heap_alloc_new W (.cells ys.toArray e))) h1 (by simp only[maxLen];omega) hl (by simp;omega) ?_
 intro v1 w1 hown hg _ hat;refine h v1 w1 hown ((HB.alloc hbase _).grown hg (by simp;omega) (own_base HO)) (World.grownBy.trans (World.grownBy_alloc W _ _) hg) ?_;rcases hat with hat|hat
 ·exact .inl hat
 ·exact .inr ⟨_,hat,by simp⟩
end
theorem own_ne{w:World}{base:Nat}{e t:TypeId}{size n g:Nat}{v:Value}{xs:List Value}{cs:Array Value}(h:w.ownsRow base e size v n xs)(hg:w.heap[g]? =some (.cells cs t (0,0)))(hne:e≠t):some g≠v.ownBlock:=by
 rcases h.2 with⟨rfl,_⟩|⟨g',cap,cur,rfl,_,hh,_⟩
 ·simp[Value.ownBlock]
 ·intro he;have:g=g':=by simpa[Value.ownBlock]using he
  subst this;rw[hg]at hh
  injection hh with hh;injection hh with _ ht;exact hne ht.symm
theorem blk_set{w:World}{g:Nat}{t:TypeId}{cs:Array Value}(h:w.heap[g]? =some (.cells cs t (0,0)))(i:Nat)(u:Value):(w.setCell ⟨g,i,none⟩ u).heap[g]? =some (.cells (cs.setIfInBounds i u) t (0,0)):=by
 simp[World.setCell,Array.getElem?_modify,h]
theorem blk_far{w:World}{g:Nat}{t:TypeId}{cs:Array Value}(h:w.heap[g]? =some (.cells cs t (0,0))){p:Addr}(hp:g≠p.block)(u:Value):(w.setCell p u).heap[g]? =some (.cells cs t (0,0)):=(Below.heap_setCell w p u g hp).trans h
theorem blk_lt{w:World}{g:Nat}{o:Obj}(h:w.heap[g]? =some o):g<w.heap.size:=(Array.getElem?_eq_some_iff.1 h).1
theorem blk_cell{w:World}{g:Nat}{t:TypeId}{cs:Array Value}(h:w.heap[g]? =some (.cells cs t (0,0)))(i:Nat):w.cell? ⟨g,i,none⟩=cs[i]? :=cell_of_row w g i cs t (0,0) h
theorem blk_frozen{w:World}{g:Nat}{t:TypeId}{cs:Array Value}(h:w.heap[g]? =some (.cells cs t (0,0)))(i:Nat):w.frozen? ⟨g,i,none⟩=false:=by simp[World.frozen?,h]
theorem blk_grown{w w1:World}{g:Nat}{o:Obj}{row:Option Nat}(h:w.heap[g]? =some o)(hg:w.grownBy w1 row)(hne:some g≠row):w1.heap[g]? =some o:=(hg.block g (blk_lt h) hne).trans h
def KeepBut(w w':World)(g:Nat)(row:Option Nat):Prop:=w.heap.size≤w'.heap.size∧ ∀i,i<w.heap.size→i≠g→some i≠row→w'.heap[i]? =w.heap[i]?
theorem KeepBut.trans{w w1 w2:World}{g:Nat}{row row1:Option Nat}(h:KeepBut w w1 g row)(k:KeepBut w1 w2 g row1)(hr:row1=row∨ ∃b,row1=some b∧w.heap.size≤b):KeepBut w w2 g row:=
 ⟨Nat.le_trans h.1 k.1,fun i hi hg hn=>by
  refine(k.2 i (Nat.lt_of_lt_of_le hi h.1) hg ?_).trans (h.2 i hi hg hn);rcases hr with rfl|⟨b,rfl,hb⟩
  ·exact hn
  ·intro e;injection e with e;omega⟩
section
variable {P:Program} {ops:Array Oper} {o:Oper} {a:Act} {Q:Exit→Act→World→Prop} {K:Act→World→Prop}
theorem step_append_cells{w0 W:World}(base:Nat)(hw:Region.wanted o (yielded ops a.tmps)=true)(s x:Operand)(t e:TypeId)(z:Value)(size bytes:Nat)
 (ho:o.op= .call { callee:= .builtin .append,args:= #[s,x],argTypes:= #[t,t] })
 (ht:P.underlying t=some (.slice e)) (hinfo:(P.info? e).map (fun i=>(i.zero,i.size,i.bytes))=some (some z,size,bytes)) (hz:z.cells.size=size) (hs0:0<size) (hb0:0<bytes)
 (v:Value) (n:Nat) (xs ys:List Value) (hs:a.eval s=v) (hx:a.eval x= .slice (some ⟨W.heap.size,0,none⟩) 1 1) (hys:ys.length=size) (h1: ∀u∈ys,u.oneCell'=true)
 (HO:W.ownsRow base e size v n xs) (HB:Below base w0 W) (hbase:base≤W.heap.size) (hl:(n+1)*bytes≤140737488355328)
 (h: ∀v1 w1,w1.ownsRow base e size v1 (n+1) (xs++ys)→Below base w0 w1→W.grownBy w1 v.ownBlock→(v1.ownBlock=v.ownBlock∨ ∃b,v1.ownBlock=some b∧W.heap.size≤b)→K (a.put o.dst v1) w1):
 if Region.wanted o (yielded ops a.tmps)=true then Oper.wp P o a (W.alloc (.cells ys.toArray e)) K Q else K (a.put o.dst undef) (W.alloc (.cells ys.toArray e)):=by
 obtain⟨i0,hi,hzz⟩:=Option.map_eq_some_iff.1 hinfo;simp only[Prod.mk.injEq]at hzz;obtain⟨hz0,hz1,hz2⟩:=hzz;have hlen:n+1≤140737488355328:=Nat.le_trans (Nat.le_mul_of_pos_right _ hb0) hl;rw[if_pos hw]
 obtain⟨v1,w1,hr,hown,hg,_,hat⟩:=run_append_own_at (P:=P) (W.alloc (.cells ys.toArray e)) base t o.type e i0 z size bytes ht hi hz0 hz1 hz2 hz hs0 v n xs (HO.alloc _) ⟨W.heap.size,0,none⟩ 1 1 ys (by rw[hys];simp)
  (by simpa using World.news_of_block (cs:=ys.toArray) (t:=e) (fr:=(0,0)) (heap_alloc_new W (.cells ys.toArray e))) h1 (by simp only[maxLen];omega) hl (by simp;omega)
 unfold Oper.wp execOp;simp only[ho,resolve,invoke,builtin,Sem.run_bind,Sem.run_pure,Result.andThen_ok,List.map_toArray,List.map_cons,List.map_nil,hs,hx,hr];refine h v1 w1 hown ((HB.alloc hbase _).grown hg (by simp;omega) (own_base HO)) (World.grownBy.trans (World.grownBy_alloc W _ _) hg) ?_;rcases hat with hat|hat
 ·exact .inl hat
 ·exact .inr ⟨_,hat,by simp⟩
end
theorem own_weaken{w:World}{base base':Nat}{e:TypeId}{size n:Nat}{v:Value}{xs:List Value}(h:w.ownsRow base e size v n xs)(hb:base'≤base):w.ownsRow base' e size v n xs:=by
 obtain⟨h1,h2⟩:=h;refine⟨h1,?_⟩;rcases h2 with h2|⟨g,cap,cur,rfl,hg,r⟩
 ·exact .inl h2
 ·exact .inr ⟨g,cap,cur,rfl,Nat.le_trans hb hg,r⟩
section
variable {α:Type} {enc:α→Value} {d:α}
def encs(enc:α→Value)(xs:List α):List Value:=xs.map enc
def rdOf(d:α)(xs:List α)(i:Int):α:=xs.getD i.toNat d
theorem encs_length(xs:List α):(encs enc xs).length=xs.length:=by simp[encs]
theorem encs_get(xs:List α)(j:Nat)(h:j<xs.length):(encs enc xs)[j]? =some (enc (xs.getD j d)):=by
 simp[encs,List.getElem?_eq_getElem h,List.getD_eq_getElem?_getD]
def ReadsOf(enc:α→Value)(d:α)(w:World)(A:Option Addr)(n:Nat)(xs:List α):Prop:=
 xs.length=n∧n≤9223372036854775807∧(0<n→ ∃ad,A=some ad∧ ∀j,j<n→w.cell? (ad.add j)=some (enc (xs.getD j d)))
theorem ReadsOf.at_{w:World}{A:Option Addr}{n:Nat}{xs:List α}(h:ReadsOf enc d w A n xs)(i:Int)(h0:0≤i)(h1:i<n): ∃ad,A=some ad∧w.cell? (ad.add i.toNat)=some (enc (rdOf d xs i)):=by
 obtain⟨ad,e,hc⟩:=h.2.2 (by omega);exact⟨ad,e,hc _ (by omega)⟩
theorem own_at_of{W:World}{base g n cap:Nat}{e:TypeId}{xs:List α}(h:W.ownsRow base e 1 (.slice (some ⟨g,0,none⟩) n cap) n (encs enc xs))(i:Int)(h0:0≤i)(h1:i<n):
 W.cell? ⟨g,i.toNat,none⟩=some (enc (rdOf d xs i))∧W.frozen? ⟨g,i.toNat,none⟩=false:=by
 have hl:xs.length=n:=by have:=h.1;simp[encs]at this;exact this
 constructor
 ·have hc:=h.cells (g:=g) rfl i.toNat _ (encs_get (d:=d) xs i.toNat (by omega))
  rwa [add_plain]at hc
 ·rcases h.2 with⟨h',_⟩|⟨g',cap',cur,h',_,hh,_⟩
  ·cases h'
  ·have:g=g':=by injection h' with h';injection h' with h';injection h' with h'
   subst this;simp[World.frozen?,hh]
theorem own_store_of{W:World}{base g n cap:Nat}{e:TypeId}{xs:List α}(h:W.ownsRow base e 1 (.slice (some ⟨g,0,none⟩) n cap) n (encs enc xs))(i:Int)(x:α):
 (W.setCell ⟨g,i.toNat,none⟩ (enc x)).ownsRow base e 1 (.slice (some ⟨g,0,none⟩) n cap) n (encs enc (xs.set i.toNat x))∧W.grownBy (W.setCell ⟨g,i.toNat,none⟩ (enc x)) (some g):=by
 have hs:=h.stored i.toNat (enc x);have he:(encs enc xs).set i.toNat (enc x)=encs enc (xs.set i.toNat x):=by simp[encs,List.map_set]
 rwa [he]at hs
end
theorem blk_alloc{w:World}{g:Nat}{o:Obj}(h:w.heap[g]? =some o)(o':Obj):(w.alloc o').heap[g]? =some o:=(Below.heap_alloc w o' g (blk_lt h)).trans h
theorem blk_drew{w:World}{g:Nat}{o:Obj}(h:w.heap[g]? =some o):w.drew.heap[g]? =some o:=h
theorem blk_drewN{w:World}{g:Nat}{o:Obj}(h:w.heap[g]? =some o)(n:Nat):(w.drewN n).heap[g]? =some o:=h
theorem blk_below{w w1:World}{g:Nat}{o:Obj}(h:w.heap[g]? =some o)(hb:Below w.heap.size w w1):w1.heap[g]? =some o:=(hb.block g (blk_lt h)).trans h
theorem blk_new(w:World)(o:Obj):(w.alloc o).heap[w.heap.size]? =some o:=heap_alloc_new w o
section
variable {P:Program}
theorem results_ct{fn:Func}{p u:Tmp}{ty:TypeId}(h:fn.results= #[.cell p ty,.tmp u])(tmps:Array Value)(w:World)(g:Nat)(t:TypeId)(cs:Array Value)(fr:Nat×Nat)(d:TypeDesc)
 (hp:tmps.getD p undef= .pointer (some ⟨g,0,none⟩)) (hg:w.heap[g]? =some (.cells cs t fr))
 (hu:P.underlying ty=some d) (hd:(match d with| .struct _| .array _ _=>true|_=>false)=true) (hi:(P.info? ty).map (·.size)=some cs.size):
 (results fn tmps).run P w= .ok (.tuple #[.agg cs,tmps.getD u undef]) w:=by
 have hp':tmps[p]?.getD undef= .pointer (some ⟨g,0,none⟩):=by simpa using hp
 simp[results,h,hp',asAddr,run_loadVar_row w g t ty cs fr d hg hu hd hi]
theorem results_ctt{fn:Func}{p u v:Tmp}{ty:TypeId}(h:fn.results= #[.cell p ty,.tmp u,.tmp v])(tmps:Array Value)(w:World)(g:Nat)(t:TypeId)(cs:Array Value)(fr:Nat×Nat)(d:TypeDesc)
 (hp:tmps.getD p undef= .pointer (some ⟨g,0,none⟩)) (hg:w.heap[g]? =some (.cells cs t fr))
 (hu:P.underlying ty=some d) (hd:(match d with| .struct _| .array _ _=>true|_=>false)=true) (hi:(P.info? ty).map (·.size)=some cs.size):
 (results fn tmps).run P w= .ok (.tuple #[.agg cs,tmps.getD u undef,tmps.getD v undef]) w:=by
 have hp':tmps[p]?.getD undef= .pointer (some ⟨g,0,none⟩):=by simpa using hp
 simp[results,h,hp',asAddr,run_loadVar_row w g t ty cs fr d hg hu hd hi]
end
theorem own_le{w:World}{base n m c size:Nat}{e:TypeId}{A:Option Addr}{xs:List Value}(h:w.ownsRow base e size (.slice A m c) n xs):m≤c:=by
 rcases h.2 with⟨he,_⟩|⟨g,cap,cur,he,_,_,hnc,_⟩
 ·injection he with _ h2 h3;omega
 ·injection he with _ h2 h3;omega
def OwnRow{α:Type}(R:α→List Value→Prop)(e:TypeId)(size:Nat)(w:World)(base:Nat)(v:Value)(ps:List α):Prop:=
 ∃inner,w.ownsRow base e size v ps.length inner∧Reps R size ps inner
section
variable {α:Type} {R R':α→List Value→Prop} {e:TypeId} {size:Nat} {w w1:World} {base:Nat} {v:Value} {ps:List α}
theorem OwnRow.none_(R:α→List Value→Prop)(e:TypeId)(size:Nat)(w:World)(base:Nat):OwnRow R e size w base (.slice none 0 0) []:=⟨[],own_nil _ _ _ _,Reps.none _ _⟩
theorem OwnRow.imp_(h:OwnRow R e size w base v ps)(hR: ∀p c,R p c→R' p c):OwnRow R' e size w base v ps:=by
 obtain⟨inner,ho,hr⟩:=h;exact⟨inner,ho,hr.imp_ hR⟩
theorem OwnRow.reads(h:OwnRow R e size w base v ps): ∃A c,v= .slice A ps.length c∧ps.length≤c∧ReadsRow R size w A ps.length ps:=by
 obtain⟨inner,ho,hr⟩:=h;obtain⟨A,c,rfl,hrow⟩:=own_reads_row ho hr rfl;exact⟨A,c,rfl,own_le ho,hrow⟩
theorem OwnRow.ne_block(h:OwnRow R e size w base v ps){g:Nat}{t:TypeId}{cells:Array Value}(hb:w.heap[g]? =some (.cells cells t (0,0)))(ht:e≠t):some g≠v.ownBlock:=by
 obtain⟨inner,ho,hr⟩:=h;exact own_ne ho hb ht
end
section
variable {P:Program} {ops:Array Oper} {rest:List Oper} {o:Oper} {a:Act} {Q:Exit→Act→World→Prop} {α:Type} {R:α→List Value→Prop}
end
theorem ReadsRow.inner_{α:Type}{R:α→List Value→Prop}{size:Nat}{w:World}{ad:Addr}{n:Nat}{ps:List α}(h:ReadsRow R size w (some ad) n ps):
 ∃inner,Reps R size ps inner∧ ∀j u,inner[j]? =some u→w.cell? (ad.add j)=some u:=by
 have key: ∀m,m≤ps.length→ ∃inner,Reps R size (ps.take m) inner∧ ∀j u,inner[j]? =some u→w.cell? (ad.add j)=some u:=by
  intro m
  induction m with
  |zero=>exact fun _=>⟨[],Reps.none _ _,fun j u hu=>by simp at hu⟩
  |succ m ih=>
   intro hm;obtain⟨inner,hr,hc⟩:=ih (by omega);obtain⟨ad',he,hcell⟩:=h.2.2 (by have:=h.1;omega);injection he with he;subst he;obtain⟨c,hcl,hp,hcc⟩:=hcell m _ (List.getElem?_eq_getElem (show m<ps.length by omega));refine⟨inner++c,?_,fun j u hu=>?_⟩
   ·rw[List.take_succ_eq_append_getElem (show m<ps.length by omega)];exact hr.snoc hp hcl
   ·have hil:inner.length=m*size:=by rw[hr.1,List.length_take,Nat.min_eq_left (by omega)]
    rcases Nat.lt_or_ge j inner.length with hj|hj
    ·rw[List.getElem?_append_left hj]at hu
     exact hc j u hu
    ·rw[List.getElem?_append_right hj]at hu
     have:=hcc (j-inner.length) u hu
     rwa [hil,Nat.add_sub_cancel' (by omega)]at this
 obtain⟨inner,hr,hc⟩:=key ps.length (Nat.le_refl _);rw[List.take_length]at hr
 exact⟨inner,hr,hc⟩
section
variable {α:Type} {P:Program}
end
structure Kd (α:Type) where
 sz:Nat
 E:List Nat
 K:World→α→List Value→Prop
 M:World→Nat→(Nat→Prop)→α→List Value→Prop
 K_len: ∀ {w x cs},K w x cs→cs.length=sz
 K_one: ∀ {w x cs},K w x cs→ ∀u∈cs,u.oneCell'=true
 K_below: ∀ {w w1:World} {x cs},Below w.heap.size w w1→K w x cs→K w1 x cs
 K_of_M: ∀ {w base ok x cs},M w base ok x cs→K w x cs
 M_mono: ∀ {w base ok ok' x cs},(∀k,ok k→ok' k)→M w base ok x cs→M w base ok' x cs
 M_bound: ∀ {w:World} {base ok x cs},M w base ok x cs→M w base (fun k=>ok k∧base≤k∧k<w.heap.size∧ ∃q,q∈E∧ ∃cells,w.heap[k]? =some (.cells cells q (0,0))) x cs
 M_move: ∀ {w w1:World} {base ok x cs},(∀k,ok k→w1.heap[k]? =w.heap[k]?)→M w base ok x cs→M w1 base ok x cs
 M_lower: ∀ {w base base' ok x cs},base'≤base→M w base ok x cs→M w base' ok x cs
theorem own_move{w w1:World}{base:Nat}{e:TypeId}{size n:Nat}{v:Value}{xs:List Value}(h:w.ownsRow base e size v n xs)(hm: ∀k,v.ownBlock=some k→w1.heap[k]? =w.heap[k]?):w1.ownsRow base e size v n xs:=by
 obtain⟨h1,h2⟩:=h;refine⟨h1,?_⟩;rcases h2 with h2|⟨g,cap,cur,rfl,hg,hh,r⟩
 ·exact .inl h2
 ·exact .inr ⟨g,cap,cur,rfl,hg,(hm g (by simp[Value.ownBlock])).trans hh,r⟩
theorem own_typed{w:World}{base:Nat}{e:TypeId}{size n:Nat}{v:Value}{xs:List Value}(h:w.ownsRow base e size v n xs)(k:Nat)(hk:v.ownBlock=some k): ∃cells,w.heap[k]? =some (.cells cells e (0,0)):=by
 rcases h.2 with⟨rfl,_⟩|⟨g,cap,cur,rfl,hg,hh,r⟩
 ·simp[Value.ownBlock]at hk
 ·have:g=k:=by simpa[Value.ownBlock]using hk
  subst this;exact⟨cur,hh⟩
namespace Kd
def C{α:Type}(d:Kd α)(w:World)(A:Option Addr)(n:Nat)(xs:List α):Prop:=ReadsRow (d.K w) d.sz w A n xs
def R{α:Type}(d:Kd α)(e:Nat)(w:World)(base:Nat)(ok:Nat→Prop)(v:Value)(xs:List α):Prop:=
 (∀k,v.ownBlock=some k→ok k)∧OwnRow (d.M w base (fun k=>ok k∧some k≠v.ownBlock)) e d.sz w base v xs
section
variable {α:Type} {d:Kd α} {e:Nat} {w w1:World} {base:Nat} {ok ok':Nat→Prop} {v:Value} {xs:List α}
theorem C_below{A:Option Addr}{n:Nat}(h:d.C w A n xs)(hb:Below w.heap.size w w1):d.C w1 A n xs:=ReadsRow.imp_ h hb (fun _ _ hp=>d.K_below hb hp)
theorem R_nil(d:Kd α)(e:Nat)(w:World)(base:Nat)(ok:Nat→Prop):d.R e w base ok (.slice none 0 0) []:=⟨fun k hk=>by simp[Value.ownBlock]at hk,OwnRow.none_ _ _ _ _ _⟩
theorem R_mono(h:d.R e w base ok v xs)(hok: ∀k,ok k→ok' k):d.R e w base ok' v xs:=⟨fun k hk=>hok k (h.1 k hk),h.2.imp_ (fun _ _ hp=>d.M_mono (fun k hk=>⟨hok k hk.1,hk.2⟩) hp)⟩
theorem R_bound(h:d.R e w base ok v xs):d.R e w base (fun k=>ok k∧base≤k∧k<w.heap.size∧ ∃q,q∈e::d.E∧ ∃cells,w.heap[k]? =some (.cells cells q (0,0))) v xs:=by
 obtain⟨h0,inner,ho,hr⟩:=h;refine⟨fun k hk=>?_,inner,ho,hr.imp_ (fun _ _ hp=>d.M_mono (fun k hk=>?_) (d.M_bound hp))⟩
 ·obtain⟨cells,hc⟩:=own_typed ho k hk;exact⟨h0 k hk,own_base ho k hk,own_lt ho k hk,e,List.mem_cons_self,cells,hc⟩
 ·obtain⟨⟨h1,h2⟩,h3,h4,q,hq,hc⟩:=hk;exact⟨⟨h1,h3,h4,q,List.mem_cons_of_mem _ hq,hc⟩,h2⟩
theorem R_move(h:d.R e w base ok v xs)(hm: ∀k,ok k→w1.heap[k]? =w.heap[k]?):d.R e w1 base ok v xs:=by
 obtain⟨h0,inner,ho,hr⟩:=h;exact⟨h0,inner,own_move ho (fun k hk=>hm k (h0 k hk)),hr.imp_ (fun _ _ hp=>d.M_move (fun k hk=>hm k hk.1) hp)⟩
theorem R_lower{base':Nat}(h:d.R e w base ok v xs)(hb:base'≤base):d.R e w base' ok v xs:=by
 obtain⟨h0,inner,ho,hr⟩:=h;exact⟨h0,inner,own_weaken ho hb,hr.imp_ (fun _ _ hp=>d.M_lower hb hp)⟩
theorem R_step(h:d.R e w base ok v xs)(hm: ∀k,ok k→k<w.heap.size→w1.heap[k]? =w.heap[k]?):d.R e w1 base ok v xs:=
 R_mono (R_move (R_bound h) (fun k hk=>hm k hk.1 hk.2.2.1)) (fun _ hk=>hk.1)
theorem M_step{x:α}{cs:List Value}(h:d.M w base ok x cs)(hm: ∀k,ok k→k<w.heap.size→w1.heap[k]? =w.heap[k]?):d.M w1 base ok x cs:=
 d.M_mono (fun _ hk=>hk.1) (d.M_move (fun k hk=>hm k hk.1 hk.2.2.1) (d.M_bound h))
theorem R_below(h:d.R e w base ok v xs)(hb:Below w.heap.size w w1):d.R e w1 base ok v xs:=R_step h (fun k _ hk=>hb.block k hk)
theorem M_below{x:α}{cs:List Value}(h:d.M w base ok x cs)(hb:Below w.heap.size w w1):d.M w1 base ok x cs:=M_step h (fun k _ hk=>hb.block k hk)
theorem R_far(h:d.R e w base ok v xs){p:Addr}(hok: ∀k,ok k→k≠p.block)(u:Value):d.R e (w.setCell p u) base ok v xs:=R_step h (fun k ho _=>Below.heap_setCell w p u k (hok k ho))
theorem R_types(h:d.R e w base ok v xs){g t:Nat}{cells:Array Value}(hb:w.heap[g]? =some (.cells cells t (0,0)))(ht: ∀q,q∈e::d.E→q≠t):d.R e w base (fun k=>ok k∧k≠g) v xs:=
 R_mono (R_bound h) (fun k hk=>⟨hk.1,by
  obtain⟨_,_,_,q,hq,cells',hc⟩:=hk;rintro rfl;rw[hc]at hb
  injection hb with hb;injection hb with _ hb;exact ht q hq hb⟩)
theorem R_reads(h:d.R e w base ok v xs): ∃A c,v= .slice A xs.length c∧xs.length≤c∧d.C w A xs.length xs:=by
 obtain⟨A,c,he,hl,hr⟩:=OwnRow.reads h.2;exact⟨A,c,he,hl,hr.imp_ (Below.refl _ _) (fun _ _ hp=>d.K_of_M hp)⟩
theorem R_slice(h:d.R e w base ok v xs): ∃A c,v= .slice A xs.length c:=by
 obtain⟨A,c,he,_⟩:=R_reads h;exact⟨A,c,he⟩
theorem R_own(h:d.R e w base ok v xs): ∃inner,w.ownsRow base e d.sz v xs.length inner:=by
 obtain⟨_,inner,ho,_⟩:=h;exact⟨inner,ho⟩
theorem R_ne(h:d.R e w base ok v xs){g t:Nat}{cells:Array Value}(hb:w.heap[g]? =some (.cells cells t (0,0)))(ht:e≠t):some g≠v.ownBlock:=OwnRow.ne_block h.2 hb ht
end
def scalar{α:Type}(enc:α→Value)(h1: ∀x,(enc x).oneCell'=true):Kd α where
 sz:=1
 E:= []
 K:=fun _ x cs=>cs= [enc x]
 M:=fun _ _ _ x cs=>cs= [enc x]
 K_len:=fun h=>by rw[h];rfl
 K_one:=fun h u hu=>by
  rw[h]at hu
  rw[List.mem_singleton.1 hu];exact h1 _
 K_below:=fun _ h=>h
 K_of_M:=fun h=>h
 M_mono:=fun _ h=>h
 M_bound:=fun h=>h
 M_move:=fun _ h=>h
 M_lower:=fun _ h=>h
def int(k:IntKind):Kd Int:=scalar (Value.int k) (fun _=>rfl)
def slice{α:Type}(e:Nat)(d:Kd α):Kd (List α) where
 sz:=1
 E:=e::d.E
 K:=fun w xs cs=> ∃A c,cs= [.slice A xs.length c]∧xs.length≤c∧d.C w A xs.length xs
 M:=fun w base ok xs cs=> ∃v,cs= [v]∧d.R e w base ok v xs
 K_len:=by
  rintro w x cs ⟨A,c,rfl,_⟩;rfl
 K_one:=by
  rintro w x cs ⟨A,c,rfl,_⟩ u hu;rw[List.mem_singleton.1 hu];rfl
 K_below:=by
  rintro w w1 x cs hb ⟨A,c,rfl,hl,hr⟩;exact⟨A,c,rfl,hl,C_below hr hb⟩
 K_of_M:=by
  rintro w base ok x cs ⟨v,rfl,h⟩;obtain⟨A,c,rfl,hl,hr⟩:=R_reads h;exact⟨A,c,rfl,hl,hr⟩
 M_mono:=by
  rintro w base ok ok' x cs hok ⟨v,rfl,h⟩;exact⟨v,rfl,R_mono h hok⟩
 M_bound:=by
  rintro w base ok x cs ⟨v,rfl,h⟩;exact⟨v,rfl,R_bound h⟩
 M_move:=by
  rintro w w1 base ok x cs hm ⟨v,rfl,h⟩;exact⟨v,rfl,R_move h hm⟩
 M_lower:=by
  rintro w base base' ok x cs hb ⟨v,rfl,h⟩;exact⟨v,rfl,R_lower h hb⟩
def pair{α β:Type}(a:Kd α)(b:Kd β):Kd (α×β) where
 sz:=a.sz+b.sz
 E:=a.E++b.E
 K:=fun w x cs=> ∃c0 c1,cs=c0++c1∧a.K w x.1 c0∧b.K w x.2 c1
 M:=fun w base ok x cs=> ∃c0 c1,cs=c0++c1∧a.M w base ok x.1 c0∧b.M w base ok x.2 c1
 K_len:=by
  rintro w x cs ⟨c0,c1,rfl,h0,h1⟩;rw[List.length_append,a.K_len h0,b.K_len h1]
 K_one:=by
  rintro w x cs ⟨c0,c1,rfl,h0,h1⟩ u hu;rcases List.mem_append.1 hu with hu|hu
  ·exact a.K_one h0 u hu
  ·exact b.K_one h1 u hu
 K_below:=by
  rintro w w1 x cs hb ⟨c0,c1,rfl,h0,h1⟩;exact⟨c0,c1,rfl,a.K_below hb h0,b.K_below hb h1⟩
 K_of_M:=by
  rintro w base ok x cs ⟨c0,c1,rfl,h0,h1⟩;exact⟨c0,c1,rfl,a.K_of_M h0,b.K_of_M h1⟩
 M_mono:=by
  rintro w base ok ok' x cs hok ⟨c0,c1,rfl,h0,h1⟩;exact⟨c0,c1,rfl,a.M_mono hok h0,b.M_mono hok h1⟩
 M_bound:=by
  rintro w base ok x cs ⟨c0,c1,rfl,h0,h1⟩;refine⟨c0,c1,rfl,a.M_mono ?_ (a.M_bound h0),b.M_mono ?_ (b.M_bound h1)⟩
  ·rintro k ⟨h2,h3,h4,q,hq,hc⟩;exact⟨h2,h3,h4,q,List.mem_append_left _ hq,hc⟩
  ·rintro k ⟨h2,h3,h4,q,hq,hc⟩;exact⟨h2,h3,h4,q,List.mem_append_right _ hq,hc⟩
 M_move:=by
  rintro w w1 base ok x cs hm ⟨c0,c1,rfl,h0,h1⟩;exact⟨c0,c1,rfl,a.M_move hm h0,b.M_move hm h1⟩
 M_lower:=by
  rintro w base base' ok x cs hb ⟨c0,c1,rfl,h0,h1⟩;exact⟨c0,c1,rfl,a.M_lower hb h0,b.M_lower hb h1⟩
def iso{α β:Type}(d:Kd α)(f:β→α):Kd β where
 sz:=d.sz
 E:=d.E
 K:=fun w x cs=>d.K w (f x) cs
 M:=fun w base ok x cs=>d.M w base ok (f x) cs
 K_len:=d.K_len
 K_one:=d.K_one
 K_below:=d.K_below
 K_of_M:=d.K_of_M
 M_mono:=d.M_mono
 M_bound:=d.M_bound
 M_move:=d.M_move
 M_lower:=d.M_lower
def bot{α:Type}(sz:Nat)(E:List Nat):Kd α where
 sz:=sz
 E:=E
 K:=fun _ _ _=>False
 M:=fun _ _ _ _ _=>False
 K_len:=fun h=>h.elim
 K_one:=fun h=>h.elim
 K_below:=fun _ h=>h
 K_of_M:=fun h=>h
 M_mono:=fun _ h=>h
 M_bound:=fun h=>h
 M_move:=fun _ h=>h
 M_lower:=fun _ h=>h
def upto{α:Type}(F:Kd α→Kd α)(sz:Nat)(E:List Nat):Nat→Kd α
 |0=>bot sz E
 |n+1=>F (upto F sz E n)
theorem R_appended{α:Type}{d:Kd α}{e base:Nat}{ok okp:Nat→Prop}{W w1:World}{v v1:Value}{xs:List α}{p:α}{inner cs:List Value}(h0: ∀k,v.ownBlock=some k→ok k)(hr:Reps (d.M W base (fun k=>ok k∧some k≠v.ownBlock)) d.sz xs inner)(hp:d.M W base okp p cs)(hokp: ∀k,okp k→ok k∧some k≠v.ownBlock)(hfresh: ∀k,W.heap.size≤k→ok k)
 (hown:w1.ownsRow base e d.sz v1 (xs.length+1) (inner++cs)) (hg:W.grownBy w1 v.ownBlock) (hat:v1.ownBlock=v.ownBlock∨ ∃b,v1.ownBlock=some b∧W.heap.size≤b):d.R e w1 base ok v1 (xs++ [p]):=by
 have hne: ∀k,some k≠v.ownBlock→k<W.heap.size→some k≠v1.ownBlock:=by
  intro k hk hlt;rcases hat with hat|⟨b,hb,hle⟩
  ·rw[hat];exact hk
  ·rw[hb];intro he;injection he with he;omega
 have step: ∀ {q:α} {c:List Value} {o:Nat→Prop},d.M W base o q c→(∀k,o k→ok k∧some k≠v.ownBlock)→d.M w1 base (fun k=>ok k∧some k≠v1.ownBlock) q c:=by
  intro q c o hq ho;have h1:=d.M_move (w1:=w1) (fun k hk=>hg.block k hk.2.2.1 (ho k hk.1).2) (d.M_bound hq);exact d.M_mono (fun k hk=>⟨(ho k hk.1).1,hne k (ho k hk.1).2 hk.2.2.1⟩) h1
 refine⟨fun k hk=>?_,inner++cs,by rw[List.length_append,List.length_singleton];exact hown,?_⟩
 ·rcases hat with hat|⟨b,hb,hle⟩
  ·exact h0 k (hat▸hk)
  ·rw[hb]at hk
   injection hk with hk;exact hfresh k (by omega)
 ·exact(hr.imp_ (fun _ _ hq=>step hq (fun _ hk=>hk))).snoc (step hp hokp) (d.K_len (d.K_of_M hp))
section
variable {P:Program} {ops:Array Oper} {rest:List Oper} {o:Oper} {a:Act} {Q:Exit→Act→World→Prop} {α:Type}
theorem R_append(d:Kd α){w0 W:World}(base:Nat)(hgd:o.guard=none)(s x:Operand)(t e:TypeId)(z:Value)(bytes:Nat)
 (ho:o.op= .call { callee:= .builtin .append,args:= #[s,x],argTypes:= #[t,t] })
 (ht:P.underlying t=some (.slice e)) (hinfo:(P.info? e).map (fun i=>(i.zero,i.size,i.bytes))=some (some z,d.sz,bytes)) (hz:z.cells.size=d.sz) (hs0:0<d.sz) (hb0:0<bytes)
 (v:Value) (xs:List α) (p:α) (cs:List Value) (ok okp:Nat→Prop) (hs:a.eval s=v) (hx:a.eval x= .slice (some ⟨W.heap.size,0,none⟩) 1 1) (hp:d.M W base okp p cs) (hokp: ∀k,okp k→ok k∧some k≠v.ownBlock) (hfresh: ∀k,W.heap.size≤k→ok k)
 (HO:d.R e W base ok v xs) (HB:Below base w0 W) (hbase:base≤W.heap.size) (hl:(xs.length+1)*bytes≤140737488355328)
 (h: ∀v1 w1,d.R e w1 base ok v1 (xs++ [p])→Below base w0 w1→W.grownBy w1 v.ownBlock→(v1.ownBlock=v.ownBlock∨ ∃b,v1.ownBlock=some b∧W.heap.size≤b)→wpList P ops Q rest (a.put o.dst v1) w1):
 wpList P ops Q (o::rest) a (W.alloc (.cells cs.toArray e)):=by
 obtain⟨h0,inner,hown,hr⟩:=HO;refine print_append_cells base hgd s x t e z d.sz bytes ho ht hinfo hz hs0 hb0 v xs.length inner cs hs hx (d.K_len (d.K_of_M hp)) (d.K_one (d.K_of_M hp)) hown HB hbase hl ?_;intro v1 w1 hown1 hb1 hg1 hat1;exact h v1 w1 (R_appended h0 hr hp hokp hfresh hown1 hg1 hat1) hb1 hg1 hat1
end
section
variable {P:Program} {ops:Array Oper} {o:Oper} {a:Act} {Q:Exit→Act→World→Prop} {Kc:Act→World→Prop} {α:Type}
theorem R_append_step(d:Kd α){w0 W:World}(base:Nat)(hw:Region.wanted o (yielded ops a.tmps)=true)(s x:Operand)(t e:TypeId)(z:Value)(bytes:Nat)
 (ho:o.op= .call { callee:= .builtin .append,args:= #[s,x],argTypes:= #[t,t] })
 (ht:P.underlying t=some (.slice e)) (hinfo:(P.info? e).map (fun i=>(i.zero,i.size,i.bytes))=some (some z,d.sz,bytes)) (hz:z.cells.size=d.sz) (hs0:0<d.sz) (hb0:0<bytes)
 (v:Value) (xs:List α) (p:α) (cs:List Value) (ok okp:Nat→Prop) (hs:a.eval s=v) (hx:a.eval x= .slice (some ⟨W.heap.size,0,none⟩) 1 1) (hp:d.M W base okp p cs) (hokp: ∀k,okp k→ok k∧some k≠v.ownBlock) (hfresh: ∀k,W.heap.size≤k→ok k)
 (HO:d.R e W base ok v xs) (HB:Below base w0 W) (hbase:base≤W.heap.size) (hl:(xs.length+1)*bytes≤140737488355328)
 (h: ∀v1 w1,d.R e w1 base ok v1 (xs++ [p])→Below base w0 w1→W.grownBy w1 v.ownBlock→(v1.ownBlock=v.ownBlock∨ ∃b,v1.ownBlock=some b∧W.heap.size≤b)→Kc (a.put o.dst v1) w1):
 if Region.wanted o (yielded ops a.tmps)=true then Oper.wp P o a (W.alloc (.cells cs.toArray e)) Kc Q else Kc (a.put o.dst undef) (W.alloc (.cells cs.toArray e)):=by
 obtain⟨h0,inner,hown,hr⟩:=HO;refine step_append_cells base hw s x t e z d.sz bytes ho ht hinfo hz hs0 hb0 v xs.length inner cs hs hx (d.K_len (d.K_of_M hp)) (d.K_one (d.K_of_M hp)) hown HB hbase hl ?_;intro v1 w1 hown1 hb1 hg1 hat1;exact h v1 w1 (R_appended h0 hr hp hokp hfresh hown1 hg1 hat1) hb1 hg1 hat1
end
theorem reps_scalar{α:Type}{enc:α→Value}(xs:List α):Reps (fun(x:α) (cs:List Value)=>cs= [enc x]) 1 xs (encs enc xs):=by
 refine⟨by simp[encs],fun j p hj=>?_⟩;obtain⟨hl,hp⟩:=List.getElem?_eq_some_iff.1 hj;have hl':j<(encs enc xs).length:=by rw[encs_length];exact hl
 rw[Nat.mul_one,List.drop_eq_getElem_cons hl'];simp[encs,hp]
theorem R_of_own{α:Type}{enc:α→Value}{h1: ∀x,(enc x).oneCell'=true}{e:Nat}{w:World}{base:Nat}{ok:Nat→Prop}{v:Value}{xs:List α}(ho:w.ownsRow base e 1 v xs.length (encs enc xs))(hok: ∀k,v.ownBlock=some k→ok k):(scalar enc h1).R e w base ok v xs:=⟨hok,encs enc xs,ho,reps_scalar xs⟩
theorem own_of_R{α:Type}{enc:α→Value}{h1: ∀x,(enc x).oneCell'=true}{e:Nat}{w:World}{base:Nat}{ok:Nat→Prop}{v:Value}{xs:List α}(h:(scalar enc h1).R e w base ok v xs):w.ownsRow base e 1 v xs.length (encs enc xs):=by
 obtain⟨_,inner,ho,hr⟩:=h;have:inner=encs enc xs:=by
  apply List.ext_getElem?;intro j;rcases Nat.lt_or_ge j xs.length with hj|hj
  ·have h2:=hr.2 j _ (List.getElem?_eq_getElem hj);have hl:j<inner.length:=by have:=hr.1;simp[scalar]at this;omega
   have h3:(inner.drop (j*1)).take 1= [enc xs[j]]:=h2;rw[Nat.mul_one,List.drop_eq_getElem_cons hl]at h3
   have h4:inner[j] =enc xs[j]:=by
    have h5:=congrArg List.head? h3;rw[List.take_succ_cons]at h5
    exact Option.some.inj h5
   rw[List.getElem?_eq_getElem hl,h4];simp[encs,List.getElem?_eq_getElem hj]
  ·have h3:inner.length=xs.length:=by have:=hr.1;simp[scalar]at this;omega
   rw[List.getElem?_eq_none (by omega),List.getElem?_eq_none (by rw[encs_length];omega)]
 rw[←this];exact ho
theorem C_of_reads{α:Type}{enc:α→Value}{d:α}{h1: ∀x,(enc x).oneCell'=true}{w:World}{A:Option Addr}{n:Nat}{xs:List α}(h:ReadsOf enc d w A n xs):(scalar enc h1).C w A n xs:=by
 refine⟨h.1,h.2.1,fun hn=>?_⟩;obtain⟨ad,e,hc⟩:=h.2.2 hn;refine⟨ad,e,fun j p hj=>⟨[enc p],rfl,rfl,fun i u hu=>?_⟩⟩;obtain⟨hl,hp⟩:=List.getElem?_eq_some_iff.1 hj;have h2:=hc j (by have:=h.1;omega);rw[List.getD_eq_getElem?_getD,hj]at h2
 cases i with
 |zero=>
  have:enc p=u:=by simpa using hu
  subst this;simpa[scalar]using h2
 |succ i=>simp at hu
theorem reads_of_C{α:Type}{enc:α→Value}{d:α}{h1: ∀x,(enc x).oneCell'=true}{w:World}{A:Option Addr}{n:Nat}{xs:List α}(h:(scalar enc h1).C w A n xs):ReadsOf enc d w A n xs:=by
 refine⟨h.1,h.2.1,fun hn=>?_⟩;obtain⟨ad,e,hc⟩:=h.2.2 hn;refine⟨ad,e,fun j hj=>?_⟩;have hl:j<xs.length:=by have:=h.1;omega
 obtain⟨c,_,hK,hcell⟩:=hc j _ (List.getElem?_eq_getElem hl);have hK':c= [enc xs[j]]:=hK;subst hK';have:=hcell 0 _ rfl;simpa[scalar,List.getD_eq_getElem?_getD,List.getElem?_eq_getElem hl]using this
end Kd
namespace Kd
section
variable {α:Type} {F:Kd α→Kd α} {sz:Nat} {E:List Nat} {hs: ∀n,(upto F sz E n).sz=sz} {hE: ∀n q,q∈(upto F sz E n).E→q∈E}
end
end Kd
namespace Kd
theorem R_after{α:Type}{d:Kd α}{e base:Nat}{ok:Nat→Prop}{W w1:World}{u v v1:Value}{xs:List α}(h:d.R e W base (fun k=>ok k∧some k≠v.ownBlock) u xs)(hg:W.grownBy w1 v.ownBlock)(hat:v1.ownBlock=v.ownBlock∨ ∃b,v1.ownBlock=some b∧W.heap.size≤b):d.R e w1 base (fun k=>ok k∧some k≠v1.ownBlock) u xs:=by
 refine R_mono (R_move (R_bound h) (fun k hk=>hg.block k hk.2.2.1 hk.1.2)) (fun k hk=>⟨hk.1.1,?_⟩);rcases hat with hat|⟨b,hb,hle⟩
 ·rw[hat];exact hk.1.2
 ·rw[hb];intro he;injection he with he;have:=hk.2.2.1;omega
section
variable {α β:Type} {d:Kd α} {d':Kd β} {e e':Nat} {w w1 W:World} {base b b':Nat} {ok ok' okv oku:Nat→Prop} {v u:Value} {xs:List α} {ys:List β}
theorem R_alloc(h:d.R e w base ok v xs)(o:Obj):d.R e (w.alloc o) base ok v xs:=R_below h (below_alloc (Below.refl _ _) o)
theorem R_drew(h:d.R e w base ok v xs):d.R e w.drew base ok v xs:=R_below h (below_drew (Below.refl _ _))
theorem R_drewN(h:d.R e w base ok v xs)(m:Nat):d.R e (w.drewN m) base ok v xs:=R_below h (pw_below_drewN (Below.refl _ _) m)
theorem C_alloc{A:Option Addr}{n:Nat}(h:d.C w A n xs)(o:Obj):d.C (w.alloc o) A n xs:=C_below h (below_alloc (Below.refl _ _) o)
theorem C_nil(d:Kd α)(w:World):d.C w none ([]:List α).length []:=⟨rfl,by simp,fun h=>absurd h (Nat.lt_irrefl 0)⟩
theorem R_reads'{A:Option Addr}{n c:Nat}(h:d.R e w base ok (.slice A n c) xs):n=xs.length∧n≤c∧d.C w A xs.length xs:=by
 obtain⟨A',c',he,hl,hr⟩:=R_reads h;injection he with h1 h2 h3;subst h1;exact⟨h2,by omega,hr⟩
theorem R_lt(h:d.R e w base ok v xs): ∀k,v.ownBlock=some k→k<w.heap.size:=by
 obtain⟨inner,ho⟩:=R_own h;exact own_lt ho
theorem R_base(h:d.R e w base ok v xs): ∀k,v.ownBlock=some k→base≤k:=by
 obtain⟨inner,ho⟩:=R_own h;exact own_base ho
theorem R_form(h:d.R e w base ok v xs)(hp:0<xs.length): ∃g cap,v= .slice (some ⟨g,0,none⟩) xs.length cap∧base≤g∧g<w.heap.size∧ ∃cells,w.heap[g]? =some (.cells cells e (0,0)):=by
 obtain⟨inner,ho⟩:=R_own h;obtain⟨g,cap,he,hb,hl⟩:=ho.form hp;obtain⟨cells,hc⟩:=own_typed ho g (by rw[he];simp[Value.ownBlock]);exact⟨g,cap,he,hb,hl,cells,hc⟩
end
section
variable {w W:World} {A:Option Addr} {n:Nat}
theorem at_int{k:IntKind}{xs:List Int}(h:(Kd.int k).C w A n xs)(i:Int)(h0:0≤i)(h1:i<n): ∃ad,A=some ad∧w.cell? (ad.add i.toNat)=some (.int k (rd xs i)):=
 ReadsOf.at_ (reads_of_C (enc:=Value.int k) (d:=(0:Int)) (h1:=fun _=>rfl) h) i h0 h1
variable {α:Type} {enc:α→Value} {h1: ∀x,(enc x).oneCell'=true} {e base g cap:Nat} {ok:Nat→Prop} {xs:List α}
theorem R_cell(d:α)(h:(scalar enc h1).R e W base ok (.slice (some ⟨g,0,none⟩) xs.length cap) xs)(i:Int)(h0:0≤i)(hi:i<xs.length):W.cell? ⟨g,i.toNat,none⟩=some (enc (rdOf d xs i))∧W.frozen? ⟨g,i.toNat,none⟩=false:=own_at_of (own_of_R h) i h0 hi
theorem R_put(h:(scalar enc h1).R e W base ok (.slice (some ⟨g,0,none⟩) xs.length cap) xs)(i:Int)(x:α):(scalar enc h1).R e (W.setCell ⟨g,i.toNat,none⟩ (enc x)) base ok (.slice (some ⟨g,0,none⟩) xs.length cap) (xs.set i.toNat x)∧W.grownBy (W.setCell ⟨g,i.toNat,none⟩ (enc x)) (some g):=by
 obtain⟨ho,hg⟩:=own_store_of (own_of_R h) i x;exact⟨R_of_own (by rw[List.length_set];exact ho) h.1,hg⟩
end
section
variable {P:Program} {ops:Array Oper} {rest:List Oper} {o:Oper} {a:Act} {Q:Exit→Act→World→Prop}
theorem event_run{W w1:World}{v:Value}(hgd:o.guard=none)(hrun:(execOp a.eval o).run P W= .ok (.value v) w1)(h:wpList P ops Q rest (a.put o.dst v) w1):wpList P ops Q (o::rest) a W:=by
 refine wpList_plain hgd fun K hK=>?_;unfold Oper.wp;rw[hrun];exact hK _ _ h
variable {α:Type}
theorem R_lit(d:Kd α){w0 W:World}(base e:Nat)(hgd:o.guard=none){N:Tmp}(_hd:o.dst=some N){xs:List α}{inner:List Value}{ok okp:Nat→Prop}
 (hrun:(execOp a.eval o).run P W= .ok (.value (.slice (some ⟨W.heap.size,0,none⟩) xs.length xs.length)) (W.alloc (.cells inner.toArray e)))
 (hrep:Reps (d.M W base okp) d.sz xs inner) (hok: ∀k,okp k→ok k) (hfresh:ok W.heap.size) (HB:Below base w0 W) (hbase:base≤W.heap.size) (hm:xs.length≤9223372036854775807)
 (h: ∀v1 w1,d.R e w1 base ok v1 xs→Below base w0 w1→W.grownBy w1 none→(∃b,v1.ownBlock=some b∧W.heap.size≤b)→wpList P ops Q rest (a.put o.dst v1) w1):wpList P ops Q (o::rest) a W:=by
 refine event_run hgd hrun (h _ _ ⟨fun k hk=>?_,inner,?_,?_⟩ (HB.alloc hbase _) (World.grownBy_alloc W _ none) ⟨W.heap.size,by simp[Value.ownBlock],Nat.le_refl _⟩)
 ·have:W.heap.size=k:=by simpa[Value.ownBlock]using hk
  subst this;exact hfresh
 ·have h2:=World.ownsRow_lit (base:=base) (e:=e) (size:=d.sz) W inner.toArray xs.length hbase (by simpa[maxLen]using hm) (by simpa using hrep.1);simpa using h2
 ·refine hrep.imp_ (fun p c hp=>d.M_mono (fun k hk=>⟨hok k hk.1,fun he=>?_⟩) (M_below (d.M_bound hp) (below_alloc (Below.refl _ _) _)));have h3:k=W.heap.size:=by simpa[Value.ownBlock]using he
  have:=hk.2.2.1;omega
theorem reps_made{α:Type}{R:α→List Value→Prop}{z:Value}{size:Nat}{z0:α}(hz:z.cells.size=size)(hs:0<size)(h0:R z0 z.cells.toList)(m:Nat):Reps R size (List.replicate m z0) (madeCells z.cells (m*size)).toList:=by
 refine⟨by simp[size_madeCells],fun j p hj=>?_⟩;obtain⟨hjl,hp⟩:=List.getElem?_eq_some_iff.1 hj;have hjm:j<m:=by simpa using hjl
 have hp':z0=p:=by simpa using hp
 subst hp';have hle:j*size+size≤m*size:=by rw[←Nat.succ_mul];exact Nat.mul_le_mul_right _ hjm
 have:((madeCells z.cells (m*size)).toList.drop (j*size)).take size=z.cells.toList:=by
  apply List.ext_getElem
  ·simp[size_madeCells,hz];omega
  ·intro i h1 h2;have hi:i<size:=by rw[Array.length_toList,hz]at h2;exact h2
   have hmod:(j*size+i) % size=i:=by
    rw[Nat.mul_comm,Nat.mul_add_mod];exact Nat.mod_eq_of_lt hi
   simp[madeCells,hz,hmod];rw[getElem!_pos z.cells i (by omega)]
 rw[this];exact h0
theorem R_make(d:Kd α){w0 W:World}(base e:Nat)(hgd:o.guard=none){N:Tmp}(hd:o.dst=some N)(t:TypeId)(x y:Operand)(ho:o.op= .makeSlice t x y)(n:Int)(hx:a.eval x= .int .i64 n)(hy:a.eval y= .int .i64 n)
 (ht:P.underlying t=some (.slice e)) (z:Value) (bytes:Nat) (hinfo:(P.info? e).map (fun i=>(i.zero,i.size,i.bytes))=some (some z,d.sz,bytes)) (hz:z.cells.size=d.sz) (hs0:0<d.sz) (hb0:0<bytes)
 (z0:α) {ok okp:Nat→Prop} (hzero:d.M W base okp z0 z.cells.toList) (hok: ∀k,okp k→ok k) (hfresh:ok W.heap.size) (h0:0≤n) (hl:n.toNat*bytes≤281474976710656) (HB:Below base w0 W) (hbase:base≤W.heap.size)
 (h: ∀v1 w1,d.R e w1 base ok v1 (List.replicate n.toNat z0)→Below base w0 w1→W.grownBy w1 none→(∃b,v1.ownBlock=some b∧W.heap.size≤b)→wpList P ops Q rest (a.put o.dst v1) w1):wpList P ops Q (o::rest) a W:=by
 obtain⟨m,rfl⟩:=Int.eq_ofNat_of_zero_le h0;simp only[Int.toNat_natCast]at hl h;obtain⟨i0,hi,hzz⟩:=Option.map_eq_some_iff.1 hinfo;simp only[Prod.mk.injEq]at hzz;obtain⟨hz0,hz1,hz2⟩:=hzz;have hm:m≤281474976710656:=Nat.le_trans (Nat.le_mul_of_pos_right _ hb0) hl
 have hr:=run_make (P:=P) W t e i0 z ht hi hz0 .i64 .i64 (m:Int) (m:Int) (by omega) (by omega)
  (by
    have h3:((i0.bytes*m:Nat):Int)≤281474976710656:=by rw[hz2,Nat.mul_comm];omega
    rwa [Int.natCast_mul]at h3) (by omega)
 simp only[Int.toNat_natCast]at hr;rw[hz1]at hr
 refine R_lit d base e hgd hd (xs:=List.replicate m z0) (inner:=(madeCells z.cells (m*d.sz)).toList) (okp:=okp) (ok:=ok) ?_ (reps_made hz hs0 hzero m) hok hfresh HB hbase (by simp;omega) h;simp[execOp,ho,hx,hy,hr]
end
end Kd
section
variable {w w1:World} {base n size:Nat} {e:TypeId} {v:Value} {xs:List Value}
end
namespace Kd
section
variable {α:Type} {d:Kd α} {e:Nat} {w w1 W:World} {base:Nat} {ok ok':Nat→Prop} {v:Value} {xs:List α}
end
end Kd
namespace Kd
section
variable {α:Type} {d:Kd α} {e e':Nat} {w w1 W:World} {base:Nat} {ok:Nat→Prop} {u v:Value} {xs:List α}
theorem R_typed(h:d.R e w base ok v xs): ∀k,v.ownBlock=some k→ ∃cells,w.heap[k]? =some (.cells cells e (0,0)):=by
 obtain⟨inner,ho⟩:=R_own h;exact fun k hk=>own_typed ho k hk
theorem R_over'(h:d.R e W base ok u xs)(hty: ∀k,v.ownBlock=some k→ ∃cells,W.heap[k]? =some (.cells cells e' (0,0)))(ht: ∀q,q∈e::d.E→q≠e')(hg:W.grownBy w1 v.ownBlock):d.R e w1 base ok u xs:=by
 refine R_mono (R_move (R_bound h) (fun k hk=>hg.block k hk.2.2.1 (fun he=>?_))) (fun _ hk=>hk.1);obtain⟨_,_,_,q,hq,cells,hc⟩:=hk;obtain⟨cells',hc'⟩:=hty k he.symm;rw[hc]at hc'
 injection hc' with hc';injection hc' with _ hc';exact ht q hq hc'
theorem R_elder'(hu:d.R e W base ok u xs)(hbase: ∀k,v.ownBlock=some k→W.heap.size≤k)(hb:Below W.heap.size W w1):d.R e w1 base (fun k=>ok k∧some k≠v.ownBlock) u xs:=
 R_mono (R_move (R_bound hu) (fun k hk=>hb.block k hk.2.2.1)) (fun k hk=>⟨hk.1,fun he=>by have:=hbase k he.symm;have:=hk.2.2.1;omega⟩)
theorem R_new'(h:d.R e w1 W.heap.size ok v xs)(hlt: ∀k,u.ownBlock=some k→k<W.heap.size):d.R e w1 W.heap.size (fun k=>ok k∧some k≠u.ownBlock) v xs:=
 R_mono (R_bound h) (fun k hk=>⟨hk.1,fun he=>by have:=hlt k he.symm;have:=hk.2.1;omega⟩)
theorem fresh'(hlt: ∀k,u.ownBlock=some k→k<W.heap.size): ∀k,W.heap.size≤k→some k≠u.ownBlock:=fun k hk he=>by have:=hlt k he.symm;omega
end
end Kd
namespace Kd
theorem reps_append{α:Type}{R:α→List Value→Prop}{size:Nat}{ps qs:List α}{cs ds:List Value}(h:Reps R size ps cs)(h':Reps R size qs ds):Reps R size (ps++qs) (cs++ds):=by
 refine⟨by rw[List.length_append,List.length_append,h.1,h'.1,Nat.add_mul],fun j p hj=>?_⟩;rcases Nat.lt_or_ge j ps.length with hlt|hge
 ·rw[List.getElem?_append_left hlt]at hj
  have hle:j*size+size≤cs.length:=by rw[h.1,←Nat.succ_mul];exact Nat.mul_le_mul_right _ hlt
  rw[List.drop_append_of_le_length (by omega),List.take_append_of_le_length (by rw[List.length_drop];omega)];exact h.2 j p hj
 ·rw[List.getElem?_append_right hge]at hj
  have h2:=h'.2 (j-ps.length) p hj;have hle:ps.length*size≤j*size:=Nat.mul_le_mul_right _ hge;rw[List.drop_append,List.drop_eq_nil_of_le (by rw[h.1];exact hle),List.nil_append,h.1,←Nat.sub_mul];exact h2
section
variable {P:Program} {ops:Array Oper} {rest:List Oper} {o:Oper} {a:Act} {Q:Exit→Act→World→Prop} {α:Type}
theorem R_append_rows(d:Kd α){Rr:α→List Value→Prop}{w0 W:World}(base:Nat)(hgd:o.guard=none)(s x:Operand)(t e:TypeId)(z:Value)(bytes:Nat)
 (ho:o.op= .call { callee:= .builtin .append,args:= #[s,x],argTypes:= #[t,t] })
 (ht:P.underlying t=some (.slice e)) (hinfo:(P.info? e).map (fun i=>(i.zero,i.size,i.bytes))=some (some z,d.sz,bytes)) (hz:z.cells.size=d.sz) (hs0:0<d.sz) (hb0:0<bytes)
 (v:Value) (xs ys:List α) (A:Option Addr) (m c:Nat) (ok okp:Nat→Prop) (hs:a.eval s=v) (hx:a.eval x= .slice A m c)
 (HO:d.R e W base ok v xs) (HR:ReadsRow Rr d.sz W A m ys) (hKM: ∀x cs,Rr x cs→d.M W base okp x cs) (hokp: ∀k,okp k→ok k∧some k≠v.ownBlock) (hfresh: ∀k,W.heap.size≤k→ok k)
 (HB:Below base w0 W) (hbase:base≤W.heap.size) (hl:(xs.length+m)*bytes≤140737488355328)
 (h: ∀v1 w1,d.R e w1 base ok v1 (xs++ys)→Below base w0 w1→W.grownBy w1 v.ownBlock→(v1.ownBlock=v.ownBlock∨ ∃b,v1.ownBlock=some b∧W.heap.size≤b)→wpList P ops Q rest (a.put o.dst v1) w1):
 wpList P ops Q (o::rest) a W:=by
 obtain⟨i0,hi,hzz⟩:=Option.map_eq_some_iff.1 hinfo;simp only[Prod.mk.injEq]at hzz;obtain⟨hz0,hz1,hz2⟩:=hzz;have hm:ys.length=m:=HR.1;have hlen:xs.length+m≤140737488355328:=Nat.le_trans (Nat.le_mul_of_pos_right _ hb0) hl;obtain⟨hok,inner,hown,hr⟩:=HO;have hrun: ∃v1 w1,(Builtin.append_ #[t,t] o.type #[v,.slice A m c]).run P W= .ok v1 w1∧d.R e w1 base ok v1 (xs++ys)∧W.grownBy w1 v.ownBlock∧(v1.ownBlock=v.ownBlock∨ ∃b,v1.ownBlock=some b∧W.heap.size≤b):=by
  rcases A with _|ad
  ·have h0:m=0:=by
    rcases Nat.eq_zero_or_pos m with h0|h0
    ·exact h0
    ·obtain⟨ad,h,_⟩:=HR.2.2 h0
     cases h
   subst h0;obtain rfl:ys= []:=List.eq_nil_of_length_eq_zero hm;refine⟨v,W,?_,by rw[List.append_nil];exact⟨hok,inner,hown,hr⟩,World.grownBy.refl W _,.inl rfl⟩;rcases hown.2 with⟨rfl,hn⟩|⟨g,cap,cur,rfl,_,_,hnc,_⟩
   ·simp[Builtin.append_,run_underlying ht,sizeOf,typeInfo,hi,Builtin.lenOf,Builtin.firstCells]
   ·simp[Builtin.append_,run_underlying ht,sizeOf,typeInfo,hi,Builtin.lenOf,Builtin.firstCells,hnc,storeCells]
  ·obtain⟨news,hnr,hnc⟩:=ReadsRow.inner_ HR;have hnM:Reps (d.M W base okp) d.sz ys news:=hnr.imp_ (fun p c hp=>hKM p c hp);have hone: ∀u∈news,u.oneCell'=true:=by
    intro u hu;obtain⟨q,hq,rfl⟩:=List.mem_iff_getElem.1 hu;have hql:q / d.sz<ys.length:=by
     rw[Nat.div_lt_iff_lt_mul hs0];rw[←hnM.1];exact hq
    have hc:=hnM.2 (q / d.sz) _ (List.getElem?_eq_getElem hql);refine d.K_one (d.K_of_M hc) _ ?_;rw[List.mem_iff_getElem?];refine⟨q % d.sz,?_⟩;rw[List.getElem?_take,if_pos (Nat.mod_lt _ hs0),List.getElem?_drop,Nat.mul_comm,Nat.div_add_mod,List.getElem?_eq_getElem hq]
   obtain⟨v1,w1,hrun,h2,hg,_,hat⟩:=run_append_own_at (P:=P) W base t o.type e i0 z d.sz bytes ht hi hz0 hz1 hz2 hz hs0 v xs.length inner hown ad m c news (by rw[hnM.1,hm]) hnc hone (by simp only[maxLen];omega) hl hbase;have hat':v1.ownBlock=v.ownBlock∨ ∃b,v1.ownBlock=some b∧W.heap.size≤b:=by
    rcases hat with hat|hat
    ·exact .inl hat
    ·exact .inr ⟨_,hat,Nat.le_refl _⟩
   have hne: ∀k,some k≠v.ownBlock→k<W.heap.size→some k≠v1.ownBlock:=by
    intro k hk hlt;rcases hat' with hat|⟨b,hb,hle⟩
    ·rw[hat];exact hk
    ·rw[hb];intro he;injection he with he;omega
   have step: ∀ {q:α} {c:List Value} {o:Nat→Prop},d.M W base o q c→(∀k,o k→ok k∧some k≠v.ownBlock)→d.M w1 base (fun k=>ok k∧some k≠v1.ownBlock) q c:=by
    intro q c o hq ho;have h1:=d.M_move (w1:=w1) (fun k hk=>hg.block k hk.2.2.1 (ho k hk.1).2) (d.M_bound hq);exact d.M_mono (fun k hk=>⟨(ho k hk.1).1,hne k (ho k hk.1).2 hk.2.2.1⟩) h1
   refine⟨v1,w1,hrun,⟨fun k hk=>?_,inner++news,by rw[List.length_append,hm];exact h2,reps_append (hr.imp_ (fun _ _ hq=>step hq (fun _ hk=>hk))) (hnM.imp_ (fun _ _ hq=>step hq hokp))⟩,hg,hat'⟩;rcases hat' with hat|⟨b,hb,hle⟩
   ·exact hok k (hat▸hk)
   ·rw[hb]at hk
    injection hk with hk;exact hfresh k (by omega)
 obtain⟨v1,w1,hr1,h1,hg,hat⟩:=hrun;refine wpList_plain hgd fun K hK=>?_;unfold Oper.wp execOp;simp only[ho,resolve,invoke,builtin,Sem.run_bind,Sem.run_pure,Result.andThen_ok,List.map_toArray,List.map_cons,List.map_nil,hs,hx,hr1];exact hK _ _ (h v1 w1 h1 (HB.grown hg hbase (own_base hown)) hg hat)
end
end Kd
namespace Kd
end Kd
theorem string_of_reads{P:Program}{w:World}{src dst e:TypeId}{A:Option Addr}{n c:Nat}{xs:List Int}(hs:P.underlying src=some (.slice e))(he:P.underlying e=some (.int .u8))(hd:P.underlying dst=some .string)
 (h:ReadsInt w .u8 A n xs):(convert src dst (.slice A n c)).run P w= .ok (.string (strOfNums xs)) w:=by
 have hn:xs.length=n:=h.1;rcases A with _|ad
 ·have h0:n=0:=by
   rcases Nat.eq_zero_or_pos n with h0|h0
   ·exact h0
   ·obtain⟨ad,h',_⟩:=h.2.2 h0
    cases h'
  subst h0;obtain rfl:xs= []:=List.eq_nil_of_length_eq_zero hn;exact run_convert_bytes_nil w src e hs he 0 c dst hd
 ·have hl:(loadCells ad n).run P w= .ok (xs.map (Value.int .u8)).toArray w:=by
   have:=run_loadCells_list (P:=P) w ad (xs.map (Value.int .u8)) (fun j v hj=>by
    have hjl:j<xs.length:=by
     rcases Nat.lt_or_ge j xs.length with h'|h'
     ·exact h'
     ·rw[List.getElem?_eq_none (by rw[List.length_map];exact h')]at hj
      cases hj
    obtain⟨ad',he',hc⟩:=h.2.2 (by omega);injection he' with he';subst he';rw[hc j (by omega)];rw[List.getElem?_map,List.getElem?_eq_getElem hjl]at hj
    simp at hj;subst hj;simp[List.getD_eq_getElem?_getD,List.getElem?_eq_getElem hjl])
   simpa[hn]using this
  rw[run_convert_bytes_string w src dst e _ n c hs he hd,run_bytesToString w ad n c xs hl,foldl_push_bytes];simp[strOfNums,ByteArray.empty,ByteArray.emptyWithCapacity];rfl
theorem Kd.C_string{P:Program}{w:World}{src dst e:TypeId}{A:Option Addr}{n c:Nat}{xs:List Int}(hs:P.underlying src=some (.slice e))(he:P.underlying e=some (.int .u8))(hd:P.underlying dst=some .string)
 (h:(Kd.int .u8).C w A n xs):(convert src dst (.slice A n c)).run P w= .ok (.string (strOfNums xs)) w:=
 string_of_reads hs he hd (Kd.reads_of_C (enc:=Value.int .u8) (d:=(0:Int)) (h1:=fun _=>rfl) h)
theorem below_size{w W:World}(h:Below w.heap.size w W):w.heap.size≤W.heap.size:=h.size
theorem below_step{w W w2:World}(h:Below w.heap.size w W)(k:Below W.heap.size W w2):Below w.heap.size w w2:=below_then h h.size k
theorem pw_own_drewN{W:World}{base n:Nat}{e:TypeId}{size:Nat}{v:Value}{xs:List Value}(h:W.ownsRow base e size v n xs)(m:Nat):(W.drewN m).ownsRow base e size v n xs:=h
theorem below_set{w W:World}{g j:Nat}{v:Value}(h:Below w.heap.size w W)(hg:w.heap.size≤g):Below w.heap.size w (W.setCell ⟨g,j,none⟩ v):=h.setCell hg _
theorem cell_far{W:World}{p a:Addr}(h:a.block≠p.block)(u:Value):(W.setCell p u).cell? a=W.cell? a:=by
 have:=Below.heap_setCell W p u a.block h;simp[World.cell?,this]
theorem blk_put{w:World}{g:Nat}{t:TypeId}{cs cs':Array Value}(h:w.heap[g]? =some (.cells cs t (0,0)))(i:Nat)(u:Value)(e:cs.setIfInBounds i u=cs'):(w.setCell ⟨g,i,none⟩ u).heap[g]? =some (.cells cs' t (0,0)):=e▸blk_set h i u
theorem below_drew1{base:Nat}{w W:World}(h:Below base w W):Below base w W.drew:=h.drew
namespace Kd
section
variable {α:Type} {d:Kd α} {e base g:Nat} {ok:Nat→Prop} {w w1:World} {v:Value} {xs:List α} {o:Obj}
theorem freshB(hb:w.heap[g]? =some o): ∀k,w.heap.size≤k→k≠g:=fun k hk=>by have:=blk_lt hb;omega
end
end Kd
section
variable {P:Program} {ops:Array Oper} {rest:List Oper} {o:Oper} {a:Act} {Q:Exit→Act→World→Prop}
theorem box_event{W:World}(hgd:o.guard=none){N:Tmp}(_hd:o.dst=some N){cs:Array Value}{t:TypeId}
 (hrun:(execOp a.eval o).run P W= .ok (.value (.pointer (some ⟨W.heap.size,0,none⟩))) (W.alloc (.cells cs t (0,0))))
 (h: ∀g,g=W.heap.size→ ∀w1,w1.heap[g]? =some (.cells cs t (0,0))→Below W.heap.size W w1→wpList P ops Q rest (a.put o.dst (.pointer (some ⟨g,0,none⟩))) w1):wpList P ops Q (o::rest) a W:=
 Kd.event_run hgd hrun (h _ rfl _ (blk_new W _) (below_alloc (Below.refl _ _) _))
end
namespace Kd
section
variable {α:Type} {enc:α→Value} {h1: ∀x,(enc x).oneCell'=true} {e base g n cap:Nat} {ok:Nat→Prop} {W:World} {xs:List α}
theorem R_celln(d:α)(h:(scalar enc h1).R e W base ok (.slice (some ⟨g,0,none⟩) n cap) xs)(i:Int)(h0:0≤i)(hi:i<n):W.cell? ⟨g,i.toNat,none⟩=some (enc (rdOf d xs i))∧W.frozen? ⟨g,i.toNat,none⟩=false:=by
 obtain⟨rfl,_⟩:=R_reads' h;exact R_cell d h i h0 hi
theorem R_putn(h:(scalar enc h1).R e W base ok (.slice (some ⟨g,0,none⟩) n cap) xs)(i:Int)(x:α):(scalar enc h1).R e (W.setCell ⟨g,i.toNat,none⟩ (enc x)) base ok (.slice (some ⟨g,0,none⟩) n cap) (xs.set i.toNat x):=by
 obtain⟨rfl,_⟩:=R_reads' h;exact(R_put h i x).1
end
end Kd
section
variable {P:Program} {ops:Array Oper} {rest:List Oper} {o:Oper} {a:Act} {Q:Exit→Act→World→Prop}
theorem store_event{W w1:World}(hgd:o.guard=none){t:TypeId}{p:Tmp}{v:Operand}(_ho:o.op= .store t (.tmp p) v)(hN:o.dst=none)
 (hrun:(execOp a.eval o).run P W= .ok .skip w1) (h: ∀w',w'=w1→wpList P ops Q rest a w'):wpList P ops Q (o::rest) a W:=by
 refine wpList_plain hgd fun K hK=>?_;unfold Oper.wp;rw[hrun];show K (a.put o.dst undef) w1;rw[hN];exact hK _ _ (h _ rfl)
end
namespace Kd
section
variable {α:Type} {enc:α→Value} {h1: ∀x,(enc x).oneCell'=true} {e base g n cap:Nat} {ok:Nat→Prop} {W:World} {xs:List α}
theorem R_putg(h:(scalar enc h1).R e W base ok (.slice (some ⟨g,0,none⟩) n cap) xs)(i:Int)(x:α):(scalar enc h1).R e (W.setCell ⟨g,i.toNat,none⟩ (enc x)) base ok (.slice (some ⟨g,0,none⟩) n cap) (xs.set i.toNat x)∧W.grownBy (W.setCell ⟨g,i.toNat,none⟩ (enc x)) (some g):=by
 obtain⟨rfl,_⟩:=R_reads' h;exact R_put h i x
end
end Kd
section
variable {P:Program} {ops:Array Oper} {rest:List Oper} {o:Oper} {a:Act} {Q:Exit→Act→World→Prop} {W:World}
theorem gate_dst{N:Tmp}(_hN:o.dst=some N)(h:wpList P ops Q (o::rest) a W):wpList P ops Q (o::rest) a W:=h
theorem gate_store{t:TypeId}{p:Tmp}{v:Operand}(_ho:o.op= .store t (.tmp p) v)(h:wpList P ops Q (o::rest) a W):wpList P ops Q (o::rest) a W:=h
end
section
variable {P:Program} {ops:Array Oper} {o:Oper} {a:Act} {Q:Exit→Act→World→Prop} {Kc:Act→World→Prop}
theorem event_step{W w1:World}{v:Value}(hw:Region.wanted o (yielded ops a.tmps)=true)(hrun:(execOp a.eval o).run P W= .ok (.value v) w1)(h:Kc (a.put o.dst v) w1):if Region.wanted o (yielded ops a.tmps)=true then Oper.wp P o a W Kc Q else Kc (a.put o.dst undef) W:=by
 rw[if_pos hw];unfold Oper.wp;rw[hrun];exact h
theorem box_step{W:World}(hw:Region.wanted o (yielded ops a.tmps)=true){N:Tmp}(_hd:o.dst=some N){cs:Array Value}{t:TypeId}
 (hrun:(execOp a.eval o).run P W= .ok (.value (.pointer (some ⟨W.heap.size,0,none⟩))) (W.alloc (.cells cs t (0,0))))
 (h: ∀g,g=W.heap.size→ ∀w1,w1.heap[g]? =some (.cells cs t (0,0))→Below W.heap.size W w1→Kc (a.put o.dst (.pointer (some ⟨g,0,none⟩))) w1):if Region.wanted o (yielded ops a.tmps)=true then Oper.wp P o a W Kc Q else Kc (a.put o.dst undef) W:=
 event_step hw hrun (h _ rfl _ (blk_new W _) (below_alloc (Below.refl _ _) _))
namespace Kd
variable {α:Type}
theorem R_lit_step(d:Kd α){w0 W:World}(base e:Nat)(hw:Region.wanted o (yielded ops a.tmps)=true){N:Tmp}(_hd:o.dst=some N){xs:List α}{inner:List Value}{ok okp:Nat→Prop}
 (hrun:(execOp a.eval o).run P W= .ok (.value (.slice (some ⟨W.heap.size,0,none⟩) xs.length xs.length)) (W.alloc (.cells inner.toArray e)))
 (hrep:Reps (d.M W base okp) d.sz xs inner) (hok: ∀k,okp k→ok k) (hfresh:ok W.heap.size) (HB:Below base w0 W) (hbase:base≤W.heap.size) (hm:xs.length≤9223372036854775807)
 (h: ∀v1 w1,d.R e w1 base ok v1 xs→Below base w0 w1→W.grownBy w1 none→(∃b,v1.ownBlock=some b∧W.heap.size≤b)→Kc (a.put o.dst v1) w1):if Region.wanted o (yielded ops a.tmps)=true then Oper.wp P o a W Kc Q else Kc (a.put o.dst undef) W:=by
 refine event_step hw hrun (h _ _ ⟨fun k hk=>?_,inner,?_,?_⟩ (HB.alloc hbase _) (World.grownBy_alloc W _ none) ⟨W.heap.size,by simp[Value.ownBlock],Nat.le_refl _⟩)
 ·have:W.heap.size=k:=by simpa[Value.ownBlock]using hk
  subst this;exact hfresh
 ·have h2:=World.ownsRow_lit (base:=base) (e:=e) (size:=d.sz) W inner.toArray xs.length hbase (by simpa[maxLen]using hm) (by simpa using hrep.1);simpa using h2
 ·refine hrep.imp_ (fun p c hp=>d.M_mono (fun k hk=>⟨hok k hk.1,fun he=>?_⟩) (M_below (d.M_bound hp) (below_alloc (Below.refl _ _) _)));have h3:k=W.heap.size:=by simpa[Value.ownBlock]using he
  have:=hk.2.2.1;omega
theorem R_make_step(d:Kd α){w0 W:World}(base e:Nat)(hw:Region.wanted o (yielded ops a.tmps)=true){N:Tmp}(hd:o.dst=some N)(t:TypeId)(x y:Operand)(ho:o.op= .makeSlice t x y)(n:Int)(hx:a.eval x= .int .i64 n)(hy:a.eval y= .int .i64 n)
 (ht:P.underlying t=some (.slice e)) (z:Value) (bytes:Nat) (hinfo:(P.info? e).map (fun i=>(i.zero,i.size,i.bytes))=some (some z,d.sz,bytes)) (hz:z.cells.size=d.sz) (hs0:0<d.sz) (hb0:0<bytes)
 (z0:α) {ok okp:Nat→Prop} (hzero:d.M W base okp z0 z.cells.toList) (hok: ∀k,okp k→ok k) (hfresh:ok W.heap.size) (h0:0≤n) (hl:n.toNat*bytes≤281474976710656) (HB:Below base w0 W) (hbase:base≤W.heap.size)
 (h: ∀v1 w1,d.R e w1 base ok v1 (List.replicate n.toNat z0)→Below base w0 w1→W.grownBy w1 none→(∃b,v1.ownBlock=some b∧W.heap.size≤b)→Kc (a.put o.dst v1) w1):if Region.wanted o (yielded ops a.tmps)=true then Oper.wp P o a W Kc Q else Kc (a.put o.dst undef) W:=by
 obtain⟨m,rfl⟩:=Int.eq_ofNat_of_zero_le h0;simp only[Int.toNat_natCast]at hl h;obtain⟨i0,hi,hzz⟩:=Option.map_eq_some_iff.1 hinfo;simp only[Prod.mk.injEq]at hzz;obtain⟨hz0,hz1,hz2⟩:=hzz;have hm:m≤281474976710656:=Nat.le_trans (Nat.le_mul_of_pos_right _ hb0) hl
 have hr:=run_make (P:=P) W t e i0 z ht hi hz0 .i64 .i64 (m:Int) (m:Int) (by omega) (by omega)
  (by
    have h3:((i0.bytes*m:Nat):Int)≤281474976710656:=by rw[hz2,Nat.mul_comm];omega
    rwa [Int.natCast_mul]at h3) (by omega)
 simp only[Int.toNat_natCast]at hr;rw[hz1]at hr
 refine R_lit_step d base e hw hd (xs:=List.replicate m z0) (inner:=(madeCells z.cells (m*d.sz)).toList) (okp:=okp) (ok:=ok) ?_ (reps_made hz hs0 hzero m) hok hfresh HB hbase (by simp;omega) h;simp[execOp,ho,hx,hy,hr]
end Kd
end
namespace Kd
end Kd
end Go.Proofs.YtkagobkedifhkaaDoorW.PrintWords
namespace Go.Proofs.YtkagobkedifhkaaDoorW.PrintLast
section
variable {P:Program} {ops:Array Oper} {Q:Exit→Act→World→Prop} {md:Region.Mode} {S:World→Prop} {ds:List Nat}
def Region.reachB(md:Region.Mode)(ops:Array Oper)(i:Nat):Nat→Nat→Bool
 |0,_=>false
 |fuel+1,d=>match ops[d]? with
  |some o=>o.after.any fun e=>Region.binds md e&&(e.on==i||Region.reachB md ops i fuel e.on)
  |none=>false
def Region.closedB(md:Region.Mode)(ops:Array Oper)(listed:Array Bool):Bool:=
 (List.range ops.size).all fun j=> !listed.getD j false||match ops[j]? with
   |some o=>o.after.all fun e=> !Region.binds md e||listed.getD e.on false
   |none=>true
def Region.lastB(md:Region.Mode)(ops:Array Oper)(listed:Array Bool)(ds:List Nat)(i:Nat):Bool:=
 ds.all fun d=>listed.getD d true||Region.reachB md ops i ops.size d
def ListedClosed(md:Region.Mode)(ops:Array Oper)(listed:Array Bool):Prop:=
 ∀j oj,ops[j]? =some oj→listed.getD j false=true→ ∀e∈oj.after,Region.binds md e=true→listed.getD e.on false=true
theorem Region.closedB_spec{listed:Array Bool}(h:Region.closedB md ops listed=true):ListedClosed md ops listed:=by
 intro j oj hj hl e he hb;have hlt:j<ops.size:=(Array.getElem?_eq_some_iff.1 hj).1;have h1:=List.all_eq_true.1 h j (List.mem_range.2 hlt);simp only[hl,hj,Bool.not_true,Bool.false_or]at h1;have h2:=Array.all_eq_true_iff_forall_mem.1 h1 e he;simpa[hb]using h2
theorem ListedClosed.set{listed:Array Bool}{i:Nat}(h:ListedClosed md ops listed)(hi:i∈Region.ready md ops listed):ListedClosed md ops (listed.setIfInBounds i true):=by
 obtain⟨_,oi,hoi,hall⟩:=mem_ready.1 hi;intro j oj hj hl e he hb;by_cases hij:i=j
 ·subst hij;have:oj=oi:=Option.some.inj (hj.symm.trans hoi);subst this;exact getD_set_true (hall e he hb)
 ·rw[getD_set_ne false hij]at hl
  exact getD_set_true (h j oj hj hl e he hb)
theorem Region.reach_listed{listed:Array Bool}{i:Nat}(hc:ListedClosed md ops listed): ∀(fuel d:Nat),Region.reachB md ops i fuel d=true→listed.getD d false=true→listed.getD i false=true
 |0,_,h,_=>by simp[Region.reachB]at h
 |fuel+1,d,h,hl=>by
  unfold Region.reachB at h
  cases ho:ops[d]? with
  |none=>rw[ho]at h;simp at h
  |some o=>
   rw[ho]at h
   obtain⟨e,he,h1⟩:=Array.any_eq_true'.1 h;simp only[Bool.and_eq_true,Bool.or_eq_true,beq_iff_eq]at h1;have hle:=hc d o ho hl e he h1.1;rcases h1.2 with h2|h2
   ·rw[←h2];exact hle
   ·exact Region.reach_listed hc fuel e.on h2 hle
theorem Region.reach_not_ready{listed:Array Bool}{i d fuel:Nat}(hc:ListedClosed md ops listed)(hr:Region.reachB md ops i fuel d=true)(hun:listed.getD i true=false):d∉Region.ready md ops listed:=by
 intro hd;obtain⟨_,o,ho,hall⟩:=mem_ready.1 hd;have hi:listed.getD i false=true:=by
  cases fuel with
  |zero=>simp[Region.reachB]at hr
  |succ n=>
   unfold Region.reachB at hr;rw[ho]at hr
   obtain⟨e,he,h1⟩:=Array.any_eq_true'.1 hr;simp only[Bool.and_eq_true,Bool.or_eq_true,beq_iff_eq]at h1;have hle:=hall e he h1.1;rcases h1.2 with h2|h2
   ·rw[←h2];exact hle
   ·exact Region.reach_listed hc n e.on h2 hle
 rcases Nat.lt_or_ge i listed.size with h'|h'
 ·simp[h']at hun hi
  rw[hun]at hi
  cases hi
 ·simp[Array.getElem?_eq_none h']at hun
def wpAnyLast(P:Program)(md:Region.Mode)(ops:Array Oper)(Q:Exit→Act→World→Prop)(S:World→Prop)(ds:List Nat):Nat→Array Bool→Act→World→Prop
 |0,listed,a,w=>Region.ready md ops listed= []∧Q .normal a w
 |fuel+1,listed,a,w=>
  (Region.ready md ops listed= []→Q .normal a w)∧
  ∀i∈Region.ready md ops listed,wpOp P ops Q i (fun a' w'=>(i∉ds→S w→S w')∧wpAnyLast P md ops Q S ds fuel (listed.setIfInBounds i true) a' w') a w
theorem wpAny_of_last: ∀(fuel:Nat) (listed:Array Bool) (a:Act) (w:World),wpAnyLast P md ops Q S ds fuel listed a w→wpAny P md ops Q fuel listed a w
 |0,_,_,_,h=>h
 |fuel+1,_,_,_,h=>⟨h.1,fun i hi=>wpOp_mono (fun a' w' h'=>wpAny_of_last fuel _ a' w' h'.2) (h.2 i hi)⟩
theorem wpAnyLast_first{i:Nat}{oi:Oper}{v:Value}(hi:ops[i]? =some oi)(hsel: ∀(j:Nat) (o:Oper) cs b,ops[j]? =some o→o.op≠ .select cs b)
 (hQ: ∀c a w,Q (.panic c) (a.put oi.dst v) w→Q (.panic c) a w) (n:Nat):
 ∀(fuel:Nat) (listed:Array Bool) (a:Act) (w:World),
  (∀j oj,ops[j]? =some oj→j≠i→listed.getD j true=false→(∀e∈oj.after,Region.binds md e=true→e.on≠i)→oi.apart ops oj=true)→
  ListedClosed md ops listed→(∀d∈ds,listed.getD d true=false→Region.reachB md ops i n d=true)→
  i∈Region.ready md ops listed→YieldsIf P ops S oi v a→S w→
  wpAnyLast P md ops Q S ds fuel (listed.setIfInBounds i true) (a.put oi.dst v) w→wpAnyLast P md ops Q S ds (fuel+1) listed a w:=by
 intro fuel
 induction fuel with
 |zero=>
  intro listed a w _ _ _ hr hy hS H;refine⟨fun h=>(by rw[h]at hr;cases hr),fun j hj=>?_⟩;by_cases hji:j=i
  ·subst hji;exact hy.wpOp hi hS ⟨fun _ h=>h,H⟩
  ·have:=ready_mono hj hji;rw[H.1]at this
   cases this
 |succ fuel ih=>
  intro listed a w hfree hc hd hr hy hS H;refine⟨fun h=>(by rw[h]at hr;cases hr),fun j hj=>?_⟩;by_cases hji:j=i
  ·subst hji;exact hy.wpOp hi hS ⟨fun _ h=>h,H⟩
  ·have h1:=H.2 j (ready_mono hj hji);obtain⟨hjun,oj,hoj,hall⟩:=mem_ready.1 hj;have hiun:=(mem_ready.1 hr).1;have hnot: ∀e∈oj.after,Region.binds md e=true→e.on≠i:=fun e he hb heq=>by
    have h1:=hall e he hb;rw[heq]at h1
    rcases Nat.lt_or_ge i listed.size with h'|h'
    ·simp[h']at hiun h1;rw[hiun]at h1;cases h1
    ·simp[Array.getElem?_eq_none h']at h1
   have hjd:j∉ds:=fun hm=>Region.reach_not_ready hc (hd j hm hjun) hiun hj;have h2:=wpOp_putIf hoj (hfree j oj hoj hji hjun hnot) (fun cs b=>hsel i oi cs b hi) (fun cs b=>hsel j oj cs b hoj) hQ hy h1
   have hfree': ∀k ok,ops[k]? =some ok→k≠i→(listed.setIfInBounds j true).getD k true=false→
    (∀e∈ok.after,Region.binds md e=true→e.on≠i)→oi.apart ops ok=true:=fun k ok hk hki hun hno=>by
    refine hfree k ok hk hki ?_ hno;by_cases hjk:j=k
    ·subst hjk;exact hjun
    ·rw[getD_set_ne true hjk]at hun;exact hun
   have hd': ∀d∈ds,(listed.setIfInBounds j true).getD d true=false→Region.reachB md ops i n d=true:=fun d hm hun=>by
    refine hd d hm ?_;by_cases hjk:j=d
    ·subst hjk;exact hjun
    ·rw[getD_set_ne true hjk]at hun;exact hun
   refine wpOp_mono (fun a' w' h3=>⟨h3.2.1,ih (listed.setIfInBounds j true) a' w' hfree' (hc.set hj) hd' (ready_mono hr (Ne.symm hji)) h3.1 (h3.2.1 hjd hS) ?_⟩) h2;rw[Array.setIfInBounds_comm _ _ hji];exact h3.2.2
theorem wpAnyLast_any{i:Nat}{oi:Oper}{v:Value}(hi:ops[i]? =some oi)(hsel: ∀(j:Nat) (o:Oper) cs b,ops[j]? =some o→o.op≠ .select cs b)
 (hQ: ∀c a w,Q (.panic c) (a.put oi.dst v) w→Q (.panic c) a w):
 ∀(fuel:Nat) (listed:Array Bool) (a:Act) (w:World),
  (∀j oj,ops[j]? =some oj→j≠i→listed.getD j true=false→(∀e∈oj.after,Region.binds md e=true→e.on≠i)→oi.apart ops oj=true)→
  i∈Region.ready md ops listed→Yields P ops oi v a→
  wpAnyLast P md ops Q S ds fuel (listed.setIfInBounds i true) (a.put oi.dst v) w→wpAnyLast P md ops Q S ds (fuel+1) listed a w:=by
 intro fuel
 induction fuel with
 |zero=>
  intro listed a w _ hr hy H;refine⟨fun h=>(by rw[h]at hr;cases hr),fun j hj=>?_⟩;by_cases hji:j=i
  ·subst hji;exact(hy.yieldsIf (S:=fun _=>True)).wpOp hi trivial ⟨fun _ h=>h,H⟩
  ·have:=ready_mono hj hji;rw[H.1]at this
   cases this
 |succ fuel ih=>
  intro listed a w hfree hr hy H;refine⟨fun h=>(by rw[h]at hr;cases hr),fun j hj=>?_⟩;by_cases hji:j=i
  ·subst hji;exact(hy.yieldsIf (S:=fun _=>True)).wpOp hi trivial ⟨fun _ h=>h,H⟩
  ·have h1:=H.2 j (ready_mono hj hji);obtain⟨hjun,oj,hoj,hall⟩:=mem_ready.1 hj;have hiun:=(mem_ready.1 hr).1;have hnot: ∀e∈oj.after,Region.binds md e=true→e.on≠i:=fun e he hb heq=>by
    have h1:=hall e he hb;rw[heq]at h1
    rcases Nat.lt_or_ge i listed.size with h'|h'
    ·simp[h']at hiun h1;rw[hiun]at h1;cases h1
    ·simp[Array.getElem?_eq_none h']at h1
   have h2:=wpOp_put hoj (hfree j oj hoj hji hjun hnot) (fun cs b=>hsel i oi cs b hi) (fun cs b=>hsel j oj cs b hoj) hQ hy h1
   have hfree': ∀k ok,ops[k]? =some ok→k≠i→(listed.setIfInBounds j true).getD k true=false→
    (∀e∈ok.after,Region.binds md e=true→e.on≠i)→oi.apart ops ok=true:=fun k ok hk hki hun hno=>by
    refine hfree k ok hk hki ?_ hno;by_cases hjk:j=k
    ·subst hjk;exact hjun
    ·rw[getD_set_ne true hjk]at hun;exact hun
   refine wpOp_mono (fun a' w' h3=>⟨h3.2.1,ih (listed.setIfInBounds j true) a' w' hfree' (ready_mono hr (Ne.symm hji)) h3.1 ?_⟩) h2;rw[Array.setIfInBounds_comm _ _ hji];exact h3.2.2
theorem wpAnyLast_take{i:Nat}{oi:Oper}{v:Value}{fuel:Nat}{listed:Array Bool}{a:Act}{w:World}(hi:ops[i]? =some oi)
 (hs:Region.noSelect ops=true) (hf:Region.free md ops listed i=true) (hr:(Region.ready md ops listed).contains i=true)
 (hc:Region.closedB md ops listed=true) (hl:Region.lastB md ops listed ds i=true)
 (hQ: ∀c a w,Q (.panic c) (a.put oi.dst v) w→Q (.panic c) a w) (hy:YieldsIf P ops S oi v a) (hS:S w)
 (h:wpAnyLast P md ops Q S ds fuel (listed.setIfInBounds i true) (a.put oi.dst v) w):wpAnyLast P md ops Q S ds (fuel+1) listed a w:=
 wpAnyLast_first hi (Region.noSelect_spec hs) hQ ops.size fuel listed a w (Region.free_spec hi hf) (Region.closedB_spec hc)
  (fun d hm hun=>by have:=List.all_eq_true.1 hl d hm;rw[hun]at this;simpa using this) (by simpa using hr) hy hS h
theorem wpAnyLast_all{rs:List Nat}{fuel:Nat}{listed:Array Bool}{a:Act}{w:World}(hr:Region.ready md ops listed=rs)(hne:rs≠ [])
 (h: ∀i∈rs,wpOp P ops Q i (fun a' w'=>(i∉ds→S w→S w')∧wpAnyLast P md ops Q S ds fuel (listed.setIfInBounds i true) a' w') a w):wpAnyLast P md ops Q S ds (fuel+1) listed a w:=
 ⟨fun h0=>absurd (hr▸h0) hne,hr▸h⟩
theorem wpAnyLast_done{listed:Array Bool}{a:Act}{w:World}(hr:Region.ready md ops listed= [])(h:Q .normal a w):
 ∀fuel,wpAnyLast P md ops Q S ds fuel listed a w
 |0=>⟨hr,h⟩
 |_+1=>⟨fun _=>h,by rw[hr];simp⟩
theorem wp_region_last{id:Nat}{a:Act}{w:World}(hm:P.follows .mixedOrders=true)
 (h:wpAnyLast P .any ops Q S ds ops.size (Array.replicate ops.size false) a { w with drawn:=w.drawn+1 }):(Code.region id ops true).wp P Q a w:=
 wp_region_any hm (wpAny_of_last _ _ _ _ h)
end
section
variable {P:Program} {ops:Array Oper} {Q:Exit→Act→World→Prop} {md:Region.Mode} {S:World→Prop} {ds:List Nat}
def AllReadyL(P:Program)(md:Region.Mode)(ops:Array Oper)(Q:Exit→Act→World→Prop)(S:World→Prop)(ds:List Nat)(fuel:Nat)(listed:Array Bool)(a:Act)(w:World)(rs:List Nat):Prop:=
 ∀i∈rs,wpOp P ops Q i (fun a' w'=>(i∉ds→S w→S w')∧wpAnyLast P md ops Q S ds fuel (listed.setIfInBounds i true) a' w') a w
theorem AllReadyL.nil{fuel:Nat}{listed:Array Bool}{a:Act}{w:World} :AllReadyL P md ops Q S ds fuel listed a w []:=fun _ h=>by cases h
theorem AllReadyL.cons{fuel:Nat}{listed:Array Bool}{a:Act}{w:World}{i:Nat}{o:Oper}{rs:List Nat}(ho:ops[i]? =some o)(hd:i∉ds)
 (h: ∀K':Act→World→Prop,Shut (∀a w,S w→(S w→wpAnyLast P md ops Q S ds fuel (listed.setIfInBounds i true) a w)→K' a w)→if Region.wanted o (yielded ops a.tmps)=true then Oper.wp P o a w K' Q else K' (a.put o.dst undef) w)
 (hs:AllReadyL P md ops Q S ds fuel listed a w rs):AllReadyL P md ops Q S ds fuel listed a w (i::rs):=fun j hj=>by
 rcases List.mem_cons.1 hj with rfl|hj
 ·exact wpOp_step ho (fun K' hK=>h K' (fun a w hS hW=>hK a w ⟨fun _ _=>hS,hW hS⟩))
 ·exact hs j hj
theorem AllReadyL.cons_last{fuel:Nat}{listed:Array Bool}{a:Act}{w:World}{i:Nat}{o:Oper}{rs:List Nat}(ho:ops[i]? =some o)(hd:i∈ds)
 (h: ∀K':Act→World→Prop,Shut (∀a w,wpAnyLast P md ops Q S ds fuel (listed.setIfInBounds i true) a w→K' a w)→if Region.wanted o (yielded ops a.tmps)=true then Oper.wp P o a w K' Q else K' (a.put o.dst undef) w)
 (hs:AllReadyL P md ops Q S ds fuel listed a w rs):AllReadyL P md ops Q S ds fuel listed a w (i::rs):=fun j hj=>by
 rcases List.mem_cons.1 hj with rfl|hj
 ·exact wpOp_step ho (fun K' hK=>h K' (fun a w hW=>hK a w ⟨fun hn=>absurd hd hn,hW⟩))
 ·exact hs j hj
theorem wpAnyLast_ready{rs:List Nat}{fuel:Nat}{listed:Array Bool}{a:Act}{w:World}(hr:Region.ready md ops listed=rs)(hne:rs≠ [])
 (h:AllReadyL P md ops Q S ds fuel listed a w rs):wpAnyLast P md ops Q S ds (fuel+1) listed a w:=wpAnyLast_all hr hne h
theorem start_{id n:Nat}{a:Act}{w:World}(l:Array Bool)(hm:P.follows .mixedOrders=true)(hn:ops.size=n)(hl:Array.replicate n false=l)(hS:S w.drew)
 (h:S w.drew→wpAnyLast P .any ops Q S ds n l a w.drew):(Code.region id ops true).wp P Q a w:=by
 subst hn;subst hl;exact wp_region_last hm (h hS)
def takeB(md:Region.Mode)(ops:Array Oper)(ds:List Nat)(l l':Array Bool)(i:Nat):Bool:=
 Region.noSelect ops&&Region.free md ops l i&&(Region.ready md ops l).contains i&&Region.closedB md ops l&&Region.lastB md ops l ds i&&(l.setIfInBounds i true==l')
theorem take_{i:Nat}{N:Option Tmp}{oi:Oper}{v:Value}{fuel:Nat}{l:Array Bool}{a:Act}{w:World}(l':Array Bool)(hi:ops[i]? =some oi)(hN:oi.dst=N)(hc:takeB md ops ds l l' i=true)
 (hQ: ∀c a w,Q (.panic c) (a.put oi.dst v) w→Q (.panic c) a w) (hy:YieldsIf P ops S oi v a) (hS:S w) {a':Act} (ha:a.put N v=a')
 (h:wpAnyLast P md ops Q S ds fuel l' a' w):wpAnyLast P md ops Q S ds (fuel+1) l a w:=by
 subst ha;subst hN;simp only[takeB,Bool.and_eq_true,beq_iff_eq]at hc;obtain⟨⟨⟨⟨⟨h1,h2⟩,h3⟩,h4⟩,h5⟩,h6⟩:=hc;subst h6;exact wpAnyLast_take hi h1 h2 h3 h4 h5 hQ hy hS h
def anyB(md:Region.Mode)(ops:Array Oper)(l l':Array Bool)(i:Nat):Bool:=
 Region.noSelect ops&&Region.free md ops l i&&(Region.ready md ops l).contains i&&(l.setIfInBounds i true==l')
theorem pure_{i:Nat}{N:Option Tmp}{oi:Oper}{v:Value}{fuel:Nat}{l:Array Bool}{a:Act}{w:World}(l':Array Bool)(hi:ops[i]? =some oi)(hN:oi.dst=N)(hc:anyB md ops l l' i=true)
 (hQ: ∀c a w,Q (.panic c) (a.put oi.dst v) w→Q (.panic c) a w) (hy:Yields P ops oi v a) {a':Act} (ha:a.put N v=a')
 (h:wpAnyLast P md ops Q S ds fuel l' a' w):wpAnyLast P md ops Q S ds (fuel+1) l a w:=by
 subst ha;subst hN;simp only[anyB,Bool.and_eq_true,beq_iff_eq]at hc;obtain⟨⟨⟨h1,h2⟩,h3⟩,h6⟩:=hc;subst h6;exact wpAnyLast_any hi (Region.noSelect_spec h1) hQ fuel l a w (Region.free_spec hi h2) (by simpa using h3) hy h
def readyB(md:Region.Mode)(ops:Array Oper)(l l':Array Bool)(i:Nat):Bool:=(Region.ready md ops l== [i])&&(l.setIfInBounds i true==l')
theorem one_{i:Nat}{N:Option Tmp}{oi:Oper}{fuel:Nat}{l:Array Bool}{a:Act}{w:World}(l':Array Bool)(hi:ops[i]? =some oi)(hN:oi.dst=N)(hc:readyB md ops l l' i=true)(hd:i∉ds)
 (h: ∀K:Act→World→Prop,Shut (∀a' w',S w'→(S w'→wpAnyLast P md ops Q S ds fuel l' a' w')→K a' w')→if Region.wanted oi (yielded ops a.tmps)=true then Oper.wp P oi a w K Q else K (a.put N undef) w):
 wpAnyLast P md ops Q S ds (fuel+1) l a w:=by
 subst hN;simp only[readyB,Bool.and_eq_true,beq_iff_eq]at hc;obtain⟨h1,h2⟩:=hc;subst h2;exact wpAnyLast_ready h1 (by simp) (AllReadyL.cons hi hd (fun K hK=>h K hK) AllReadyL.nil)
theorem last_{i:Nat}{N:Option Tmp}{oi:Oper}{fuel:Nat}{l:Array Bool}{a:Act}{w:World}(l':Array Bool)(hi:ops[i]? =some oi)(hN:oi.dst=N)(hc:readyB md ops l l' i=true)(hd:i∈ds)
 (h: ∀K:Act→World→Prop,Shut (∀a' w',wpAnyLast P md ops Q S ds fuel l' a' w'→K a' w')→if Region.wanted oi (yielded ops a.tmps)=true then Oper.wp P oi a w K Q else K (a.put N undef) w):
 wpAnyLast P md ops Q S ds (fuel+1) l a w:=by
 subst hN;simp only[readyB,Bool.and_eq_true,beq_iff_eq]at hc;obtain⟨h1,h2⟩:=hc;subst h2;exact wpAnyLast_ready h1 (by simp) (AllReadyL.cons_last hi hd (fun K hK=>h K hK) AllReadyL.nil)
theorem done_{l:Array Bool}{a:Act}{w:World}{n:Nat}(hr:(Region.ready md ops l== [])=true)(h:Q .normal a w):wpAnyLast P md ops Q S ds n l a w:=wpAnyLast_done (by simpa using hr) h n
theorem two_{i j:Nat}{Ni Nj:Option Tmp}{oi oj:Oper}{fuel:Nat}{l:Array Bool}{a:Act}{w:World}(li lj:Array Bool)(hi:ops[i]? =some oi)(hj:ops[j]? =some oj)(hNi:oi.dst=Ni)(hNj:oj.dst=Nj)
 (hc:(Region.ready md ops l== [i,j]&&l.setIfInBounds i true==li&&l.setIfInBounds j true==lj)=true) (hdi:i∉ds) (hdj:j∉ds)
 (h1: ∀K:Act→World→Prop,Shut (∀a' w',S w'→(S w'→wpAnyLast P md ops Q S ds fuel li a' w')→K a' w')→if Region.wanted oi (yielded ops a.tmps)=true then Oper.wp P oi a w K Q else K (a.put Ni undef) w)
 (h2: ∀K:Act→World→Prop,Shut (∀a' w',S w'→(S w'→wpAnyLast P md ops Q S ds fuel lj a' w')→K a' w')→if Region.wanted oj (yielded ops a.tmps)=true then Oper.wp P oj a w K Q else K (a.put Nj undef) w):
 wpAnyLast P md ops Q S ds (fuel+1) l a w:=by
 subst hNi;subst hNj;simp only[Bool.and_eq_true,beq_iff_eq]at hc;obtain⟨⟨h3,h4⟩,h5⟩:=hc;subst h4;subst h5;exact wpAnyLast_ready h3 (by simp) (AllReadyL.cons hi hdi (fun K hK=>h1 K hK) (AllReadyL.cons hj hdj (fun K hK=>h2 K hK) AllReadyL.nil))
theorem three_{i j k:Nat}{Ni Nj Nk:Option Tmp}{oi oj ok:Oper}{fuel:Nat}{l:Array Bool}{a:Act}{w:World}(li lj lk:Array Bool)(hi:ops[i]? =some oi)(hj:ops[j]? =some oj)(hk:ops[k]? =some ok)(hNi:oi.dst=Ni)(hNj:oj.dst=Nj)(hNk:ok.dst=Nk)
 (hc:(Region.ready md ops l== [i,j,k]&&l.setIfInBounds i true==li&&l.setIfInBounds j true==lj&&l.setIfInBounds k true==lk)=true) (hdi:i∉ds) (hdj:j∉ds) (hdk:k∉ds)
 (h1: ∀K:Act→World→Prop,Shut (∀a' w',S w'→(S w'→wpAnyLast P md ops Q S ds fuel li a' w')→K a' w')→if Region.wanted oi (yielded ops a.tmps)=true then Oper.wp P oi a w K Q else K (a.put Ni undef) w)
 (h2: ∀K:Act→World→Prop,Shut (∀a' w',S w'→(S w'→wpAnyLast P md ops Q S ds fuel lj a' w')→K a' w')→if Region.wanted oj (yielded ops a.tmps)=true then Oper.wp P oj a w K Q else K (a.put Nj undef) w)
 (h3: ∀K:Act→World→Prop,Shut (∀a' w',S w'→(S w'→wpAnyLast P md ops Q S ds fuel lk a' w')→K a' w')→if Region.wanted ok (yielded ops a.tmps)=true then Oper.wp P ok a w K Q else K (a.put Nk undef) w):
 wpAnyLast P md ops Q S ds (fuel+1) l a w:=by
 subst hNi;subst hNj;subst hNk;simp only[Bool.and_eq_true,beq_iff_eq]at hc;obtain⟨⟨⟨h4,h5⟩,h6⟩,h7⟩:=hc;subst h5;subst h6;subst h7;exact wpAnyLast_ready h4 (by simp) (AllReadyL.cons hi hdi (fun K hK=>h1 K hK) (AllReadyL.cons hj hdj (fun K hK=>h2 K hK) (AllReadyL.cons hk hdk (fun K hK=>h3 K hK) AllReadyL.nil)))
def putAll:Act→List (Tmp×Value)→Act
 |a,[]=>a
 |a,(n,v)::r=>putAll (a.put (some n) v) r
theorem join_{σ:Type}{fuel:Nat}{l:Array Bool}{a:Act}{w:World}(fuel':Nat)(l':Array Bool)(ns:σ→List (Tmp×Value))(F:σ→World→Prop)
 (hcont: ∀s w',F s w'→wpAnyLast P md ops Q S ds fuel' l' (putAll a (ns s)) w')
 (h:(∀s w',F s w'→wpAnyLast P md ops Q S ds fuel' l' (putAll a (ns s)) w')→wpAnyLast P md ops Q S ds fuel l a w):wpAnyLast P md ops Q S ds fuel l a w:=h hcont
theorem norm_{fuel:Nat}{l:Array Bool}{a a':Act}{w:World}(ha:a=a')(h:wpAnyLast P md ops Q S ds fuel l a' w):wpAnyLast P md ops Q S ds fuel l a w:=by
 subst ha;exact h
theorem call_{oi:Oper}{N:Option Tmp}{a:Act}{w:World}{K:Act→World→Prop}(f:FuncId)(args:Array Value)(hw:Region.wanted oi (yielded ops a.tmps)=true)(hN:oi.dst=N)(hrun:(execOp a.eval oi).run P w= .ok (.enter f args) w)
 (h:Calls P f args w fun e w'=> ∃v,e= .returned v∧K (a.put N v) w'):if Region.wanted oi (yielded ops a.tmps)=true then Oper.wp P oi a w K Q else K (a.put N undef) w:=by
 rw[if_pos hw];subst hN;unfold Oper.wp;rw[hrun,Oper.upon_enter];refine h.mono fun e w'' hh=>?_;obtain⟨v,rfl,hk⟩:=hh;exact hk
theorem enters_{f:FuncId}{fn:Func}(hf:P.funcs[f]? =some fn)(hname:(fn.name== "runtime.NumGoroutine")=false)(hb:fn.body.isSome=true)(args:Array Value)(w:World):(callFunc f args).run P w= .ok (.enter f args) w:=by
 have h1:fn.name≠ "runtime.NumGoroutine" :=by simpa using hname
 obtain⟨c,hc⟩:=Option.isSome_iff_exists.1 hb;simp[callFunc,hf,h1,hc]
theorem goes_{oi:Oper}{N:Option Tmp}{a:Act}{w:World}{K:Act→World→Prop}{f:FuncId}{fn:Func}{asz:Array Operand}{ts:Array TypeId}(hf:P.funcs[f]? =some fn)(hname:(fn.name== "runtime.NumGoroutine")=false)(hb:fn.body.isSome=true)(args:Array Value)
 (hw:Region.wanted oi (yielded ops a.tmps)=true) (hN:oi.dst=N) (hop:oi.op= .call { callee:= .value (.func f),args:=asz,argTypes:=ts }) (hargs:asz.map a.eval=args)
 (h:Calls P f args w fun e w'=> ∃v,e= .returned v∧K (a.put N v) w'):if Region.wanted oi (yielded ops a.tmps)=true then Oper.wp P oi a w K Q else K (a.put N undef) w:=by
 refine call_ f args hw hN ?_ h;have he:=enters_ hf hname hb args w;unfold execOp;simp[hop,resolve,Deferred.ofValue,invoke,Act.eval,hargs,he]
theorem goesL_{rest:List Oper}{oi:Oper}{a:Act}{w:World}(N:Option Tmp)(hd:oi.dst=N)(hg:oi.guard=none){f:FuncId}{fn:Func}{asz:Array Operand}{ts:Array TypeId}(hf:P.funcs[f]? =some fn)(hname:(fn.name== "runtime.NumGoroutine")=false)(hb:fn.body.isSome=true)(args:Array Value)
 (hop:oi.op= .call { callee:= .value (.func f),args:=asz,argTypes:=ts }) (hargs:asz.map a.eval=args)
 (h:Calls P f args w fun e w'=> ∃v,e= .returned v∧wpList P ops Q rest (a.put N v) w'):wpList P ops Q (oi::rest) a w:=by
 refine wpList_plain hg fun K hK=>?_;have he:=enters_ hf hname hb args w;have hrun:(execOp a.eval oi).run P w= .ok (.enter f args) w:=by
  unfold execOp;simp[hop,resolve,Deferred.ofValue,invoke,Act.eval,hargs,he]
 unfold Oper.wp;rw[hrun,Oper.upon_enter];refine h.mono fun e w'' hh=>?_;obtain⟨v,rfl,hk⟩:=hh;subst hd;exact hK _ _ hk
theorem value_{oi:Oper}{N:Option Tmp}{a:Act}{w w1:World}{v:Value}{K:Act→World→Prop}(hw:Region.wanted oi (yielded ops a.tmps)=true)(hN:oi.dst=N)(hrun:(execOp a.eval oi).run P w= .ok (.value v) w1)
 (h:K (a.put N v) w1):if Region.wanted oi (yielded ops a.tmps)=true then Oper.wp P oi a w K Q else K (a.put N undef) w:=by
 rw[if_pos hw];subst hN;unfold Oper.wp;rw[hrun];exact h
theorem skip_{oi:Oper}{a:Act}{w w1:World}{K:Act→World→Prop}(hw:Region.wanted oi (yielded ops a.tmps)=true)(hN:oi.dst=none)(hrun:(execOp a.eval oi).run P w= .ok .skip w1)
 (h:K a w1):if Region.wanted oi (yielded ops a.tmps)=true then Oper.wp P oi a w K Q else K (a.put none undef) w:=by
 rw[if_pos hw];unfold Oper.wp;rw[hrun];show K (a.put oi.dst undef) w1;rw[hN];exact h
theorem i64_w(n:Int):IntKind.i64.wrap n=Go.RowKit.wrap64 n:=by unfold Go.RowKit.wrap64;exact IntKind.wrap_i64 n
theorem i32_w(n:Int):IntKind.i32.wrap n=Go.RowKit.wrap32 n:=by unfold Go.RowKit.wrap32;exact IntKind.wrap_i32 n
end
end Go.Proofs.YtkagobkedifhkaaDoorW.PrintLast
namespace Go.Proofs.YtkagobkedifhkaaDoorW.PrintWords
open Go.RowKit
namespace Kd
section
variable {α β:Type} {d:Kd α} {d':Kd β} {e e':Nat} {w w1 W:World} {base b:Nat} {ok ok' okv oku:Nat→Prop} {u v:Value} {xs:List α} {ys:List β}
end
end Kd
end Go.Proofs.YtkagobkedifhkaaDoorW.PrintWords
namespace Go.Proofs.YtkagobkedifhkaaDoorW.PrintWords
open Go.RowKit
namespace Kd
end Kd
end Go.Proofs.YtkagobkedifhkaaDoorW.PrintWords
namespace Go.Proofs.YtkagobkedifhkaaDoorW.PrintWords
open Go.RowKit
section
variable {w W W2:World} {S S2 S':Nat→Prop}
end
namespace Kd
section
variable {α:Type} {d:Kd α} {e base n c:Nat} {ok oki S S2:Nat→Prop} {w w0 W W1 W2:World} {v:Value} {A:Option Addr} {xs:List α} {i:Int} {cs:List Value}
end
end Kd
end Go.Proofs.YtkagobkedifhkaaDoorW.PrintWords
namespace Go.Proofs.YtkagobkedifhkaaDoorW.PrintWords
open Go.RowKit
def Foot(P:World→Prop)(W:World)(ok:Nat→Prop):Prop:= ∀W':World,(∀k,ok k→k<W.heap.size→W'.heap[k]? =W.heap[k]?)→P W'
theorem heap_lt{W W1:World}{k:Nat}(h:W1.heap[k]? =W.heap[k]?)(hlt:k<W.heap.size):k<W1.heap.size:=by
 rw[Array.getElem?_eq_getElem hlt]at h
 exact(Array.getElem?_eq_some_iff.1 h).1
namespace Foot
variable {P Q:World→Prop} {W W1:World} {ok ok':Nat→Prop}
theorem now(h:Foot P W ok):P W:=h W (fun _ _ _=>rfl)
theorem mono(h:Foot P W ok)(hok: ∀k,ok k→ok' k):Foot P W ok':=fun W' hW=>h W' (fun k hk hlt=>hW k (hok k hk) hlt)
theorem bound(h:Foot P W ok):Foot P W (fun k=>ok k∧k<W.heap.size):=fun W' hW=>h W' (fun k hk hlt=>hW k ⟨hk,hlt⟩ hlt)
theorem step(h:Foot P W ok)(hm: ∀k,ok k→k<W.heap.size→W1.heap[k]? =W.heap[k]?):Foot P W1 ok:=fun W' hW=>h W' (fun k hk hlt=>(hW k hk (heap_lt (hm k hk hlt) hlt)).trans (hm k hk hlt))
theorem old(h:Foot P W ok)(hb:Below W.heap.size W W1):Foot P W1 (fun k=>ok k∧k<W.heap.size):=(h.bound).step (fun k _ hlt=>hb.block k hlt)
end Foot
namespace Kd
def F{α:Type}(d:Kd α)(W:World)(ok:Nat→Prop)(A:Option Addr)(n:Nat)(xs:List α):Prop:=Foot (fun W=>d.C W A n xs) W ok
section
variable {α β:Type} {d:Kd α} {e base n n' cc g N:Nat} {ok ok' okp S:Nat→Prop} {w w0 w1 W W1:World} {A A':Option Addr} {u v v1:Value} {xs:List α} {xs':List β} {d':Kd β} {x:α} {c:List Value}
theorem F_now(h:F d W ok A n xs):d.C W A n xs:=Foot.now h
theorem F_mono(h:F d W ok A n xs)(hok: ∀k,ok k→ok' k):F d W ok' A n xs:=Foot.mono h hok
theorem F_bound(h:F d W ok A n xs):F d W (fun k=>ok k∧k<W.heap.size) A n xs:=Foot.bound h
theorem F_step(h:F d W ok A n xs)(hm: ∀k,ok k→k<W.heap.size→W1.heap[k]? =W.heap[k]?):F d W1 ok A n xs:=Foot.step h hm
theorem F_below(h:F d W ok A n xs)(hb:Below W.heap.size W W1):F d W1 ok A n xs:=F_step h (fun k _ hlt=>hb.block k hlt)
theorem F_drew(h:F d W ok A n xs):F d W.drew ok A n xs:=F_below h (below_drew (Below.refl _ _))
theorem F_far(h:F d W ok A n xs){p:Addr}(hok: ∀k,ok k→k≠p.block)(u:Value):F d (W.setCell p u) ok A n xs:=F_step h (fun k hk _=>Below.heap_setCell W p u k (hok k hk))
theorem F_nil(d:Kd α)(W:World)(ok:Nat→Prop):F d W ok none ([]:List α).length []:=fun W' _=>C_nil d W'
theorem F_elder'(h:F d W ok A n xs)(hbase: ∀k,v.ownBlock=some k→W.heap.size≤k)(hb:Below W.heap.size W W1):F d W1 (fun k=>ok k∧some k≠v.ownBlock) A n xs:=
 F_mono (Foot.old h hb) (fun k hk=>⟨hk.1,fun he=>by have:=hbase k he.symm;have:=hk.2;omega⟩)
theorem F_elderB(h:F d W ok A n xs)(a:Nat)(ha:W.heap.size≤a):F d W (fun k=>ok k∧k≠a) A n xs:=F_mono (F_bound h) (fun k hk=>⟨hk.1,by have:=hk.2;omega⟩)
end
end Kd
end Go.Proofs.YtkagobkedifhkaaDoorW.PrintWords
namespace Go.Proofs.YtkagobkedifhkaaDoorW.PrintWords
open Go.RowKit
namespace Kd
section
variable {α:Type} {d:Kd α} {e base n cc g:Nat} {ok ok' okp S:Nat→Prop} {w w1 W W1:World} {A:Option Addr} {u v v1:Value} {xs:List α} {x:α} {c:List Value}
end
end Kd
end Go.Proofs.YtkagobkedifhkaaDoorW.PrintWords
namespace Go.Proofs.YtkagobkedifhkaaDoorW.PrintLast
open Go.Proofs.YtkagobkedifhkaaDoorW.PrintWords (Aside0)
def needsOf(md:Region.Mode)(o:Oper):List Nat:=(o.after.toList.filter (fun e=>Region.binds md e)).map (fun e=>e.on)
def clashOf(md:Region.Mode)(ops:Array Oper)(i:Nat)(oi:Oper):List Nat:=(List.range ops.size).filter fun j=> !(j==i)&&match ops[j]? with
 |some oj=> !(oj.after.any (fun e=>Region.binds md e&&e.on==i)||oi.apart ops oj)
 |none=>false
def rtab(md:Region.Mode)(ops:Array Oper):Bool×List (List Nat×List Nat):=(Region.noSelect ops,(List.range ops.size).map fun i=>match ops[i]? with
 |some o=>(needsOf md o,clashOf md ops i o)
 |none=>([],[]))
def readyAt(T:List (List Nat×List Nat))(l:List Bool)(i:Nat):Bool:= !l.getD i true&&match T[i]? with
 |some r=>r.1.all (fun j=>l.getD j false)
 |none=>false
def readyT(T:List (List Nat×List Nat))(l:List Bool):List Nat:=(List.range T.length).filter (readyAt T l)
def freeT(T:List (List Nat×List Nat))(l:List Bool)(i:Nat):Bool:=match T[i]? with
 |some r=>r.2.all (fun j=>l.getD j true)
 |none=>false
def closedT(T:List (List Nat×List Nat))(l:List Bool):Bool:=(List.range T.length).all fun j=> !l.getD j false||match T[j]? with
 |some r=>r.1.all (fun k=>l.getD k false)
 |none=>true
def reachT(T:List (List Nat×List Nat))(i:Nat):Nat→Nat→Bool
 |0,_=>false
 |fuel+1,d=>match T[d]? with
  |some r=>r.1.any fun j=>j==i||reachT T i fuel j
  |none=>false
def lastT(T:List (List Nat×List Nat))(l:List Bool)(ds:List Nat)(i:Nat):Bool:=ds.all fun d=>l.getD d true||reachT T i T.length d
section
variable {md:Region.Mode} {ops:Array Oper} {T:Bool×List (List Nat×List Nat)} {l l' li lj lk:Array Bool} {ds:List Nat} {i j k:Nat}
theorem gd(l:Array Bool)(j:Nat)(b:Bool):l.getD j b=l.toList.getD j b:=by simp[Array.getD_eq_getD_getElem?,List.getD_eq_getElem?_getD]
theorem needs_all(o:Oper)(p:Nat→Bool):o.after.all (fun e=> !Region.binds md e||p e.on)=(needsOf md o).all p:=by
 unfold needsOf;rw[←Array.all_toList]
 induction o.after.toList with
 |nil=>rfl
 |cons e r ih=>
  rw[List.all_cons,ih,List.filter_cons]
  cases h:Region.binds md e<;>simp
theorem needs_any(o:Oper)(p:Nat→Bool):o.after.any (fun e=>Region.binds md e&&p e.on)=(needsOf md o).any p:=by
 unfold needsOf;rw[←Array.any_toList]
 induction o.after.toList with
 |nil=>rfl
 |cons e r ih=>
  rw[List.any_cons,ih,List.filter_cons]
  cases h:Region.binds md e<;>simp
theorem rtab_length:(rtab md ops).2.length=ops.size:=by simp[rtab]
theorem rtab_some{o:Oper}(h:ops[i]? =some o):(rtab md ops).2[i]? =some (needsOf md o,clashOf md ops i o):=by
 have hi:=(Array.getElem?_eq_some_iff.1 h).1;unfold rtab;rw[List.getElem?_map,List.getElem?_range hi,Option.map_some,h]
theorem rtab_none(h:ops[i]? =none):(rtab md ops).2[i]? =none:=by
 have hi:ops.size≤i:=Array.getElem?_eq_none_iff.1 h;exact List.getElem?_eq_none (by rw[rtab_length];exact hi)
theorem readyAt_eq:readyAt (rtab md ops).2 l.toList i=(!l.getD i true&&((ops[i]?).map (·.after.all fun e=> !Region.binds md e||l.getD e.on false)).getD false):=by
 unfold readyAt;rw[gd]
 cases h:ops[i]? with
 |none=>rw[rtab_none h];rfl
 |some o=>
  rw[rtab_some h];simp only[Option.map_some,Option.getD_some];rw[←needs_all];simp only[gd]
theorem ready_eq:Region.ready md ops l=readyT (rtab md ops).2 l.toList:=by
 unfold Region.ready readyT;rw[rtab_length];refine List.filter_congr (fun i _=>?_);rw[readyAt_eq]
theorem free_eq:Region.free md ops l i=freeT (rtab md ops).2 l.toList i:=by
 unfold Region.free freeT
 cases h:ops[i]? with
 |none=>rw[rtab_none h]
 |some oi=>
  rw[rtab_some h];simp only[clashOf];rw[List.all_filter]
  congr 1
  funext j
  rw[gd]
  cases hj:ops[j]? with
  |none=>cases (j==i)<;>cases (l.toList.getD j true)<;>simp
  |some oj=>
   cases (j==i)<;>cases (l.toList.getD j true)<;>cases (oj.after.any (fun e=>Region.binds md e&&e.on==i)||oi.apart ops oj)<;>simp_all
theorem closed_eq:Region.closedB md ops l=closedT (rtab md ops).2 l.toList:=by
 unfold Region.closedB closedT;rw[rtab_length]
 congr 1
 funext j
 rw[gd]
 cases h:ops[j]? with
 |none=>rw[rtab_none h]
 |some o=>
  rw[rtab_some h];simp only;rw[←needs_all];simp only[gd]
theorem reach_eq: ∀(fuel d:Nat),Region.reachB md ops i fuel d=reachT (rtab md ops).2 i fuel d
 |0,_=>rfl
 |fuel+1,d=>by
  unfold Region.reachB reachT
  cases h:ops[d]? with
  |none=>rw[rtab_none h]
  |some o=>
   rw[rtab_some h];simp only;rw[←needs_any]
   congr 1
   funext e
   rw[reach_eq fuel]
theorem last_eq:Region.lastB md ops l ds i=lastT (rtab md ops).2 l.toList ds i:=by
 unfold Region.lastB lastT;rw[rtab_length]
 congr 1
 funext d
 rw[gd,reach_eq]
theorem readyAt_mem(h:readyAt T.2 l.toList i=true)(hT:rtab md ops=T):(Region.ready md ops l).contains i=true:=by
 subst hT;rw[ready_eq];unfold readyT;rw[List.contains_iff_mem,List.mem_filter,List.mem_range];refine⟨?_,h⟩;unfold readyAt at h;rw[Bool.and_eq_true]at h
 cases hq:(rtab md ops).2[i]? with
 |none=>rw[hq]at h;simp at h
 |some r=>exact(List.getElem?_eq_some_iff.1 hq).1
theorem set_of(h:(l.toList.set i true==l'.toList)=true):(l.setIfInBounds i true==l')=true:=by
 rw[beq_iff_eq]at h⊢
 apply Array.ext';rw[Array.toList_setIfInBounds];exact h
def anyT(T:Bool×List (List Nat×List Nat))(l l':List Bool)(i:Nat):Bool:=T.1&&freeT T.2 l i&&readyAt T.2 l i&&(l.set i true==l')
theorem any_of(hT:rtab md ops=T)(h:anyT T l.toList l'.toList i=true):anyB md ops l l' i=true:=by
 simp only[anyT,Bool.and_eq_true]at h;obtain⟨⟨⟨h1,h2⟩,h3⟩,h4⟩:=h;have h5:=readyAt_mem h3 hT;have h6:=set_of h4;subst hT;simp only[anyB,Bool.and_eq_true];exact⟨⟨⟨h1,by rw[free_eq];exact h2⟩,h5⟩,h6⟩
def takeT(T:Bool×List (List Nat×List Nat))(ds:List Nat)(l l':List Bool)(i:Nat):Bool:=T.1&&freeT T.2 l i&&readyAt T.2 l i&&closedT T.2 l&&lastT T.2 l ds i&&(l.set i true==l')
theorem take_of(hT:rtab md ops=T)(h:takeT T ds l.toList l'.toList i=true):takeB md ops ds l l' i=true:=by
 simp only[takeT,Bool.and_eq_true]at h;obtain⟨⟨⟨⟨⟨h1,h2⟩,h3⟩,h4⟩,h5⟩,h6⟩:=h;have h7:=readyAt_mem h3 hT;have h8:=set_of h6;subst hT;simp only[takeB,Bool.and_eq_true];exact⟨⟨⟨⟨⟨h1,by rw[free_eq];exact h2⟩,h7⟩,by rw[closed_eq];exact h4⟩,by rw[last_eq];exact h5⟩,h8⟩
theorem one_of(hT:rtab md ops=T)(h:(readyT T.2 l.toList== [i]&&l.toList.set i true==l'.toList)=true):readyB md ops l l' i=true:=by
 simp only[Bool.and_eq_true]at h;obtain⟨h1,h2⟩:=h;subst hT;simp only[readyB,Bool.and_eq_true];exact⟨by rw[ready_eq];exact h1,set_of h2⟩
theorem two_of(hT:rtab md ops=T)(h:(readyT T.2 l.toList== [i,j]&&l.toList.set i true==li.toList&&l.toList.set j true==lj.toList)=true):(Region.ready md ops l== [i,j]&&l.setIfInBounds i true==li&&l.setIfInBounds j true==lj)=true:=by
 simp only[Bool.and_eq_true]at h⊢;obtain⟨⟨h1,h2⟩,h3⟩:=h;subst hT;exact⟨⟨by rw[ready_eq];exact h1,set_of h2⟩,set_of h3⟩
theorem done_of(hT:rtab md ops=T)(h:(readyT T.2 l.toList== [])=true):(Region.ready md ops l== [])=true:=by
 subst hT;rw[ready_eq];exact h
def upM(B:List Nat)(d:Nat):List Nat→Nat
 | []=>0
 |n::r=>(2^n|||(if n<d then B.getD n 0 else 0))|||upM B d r
def waitsOk(T:List (List Nat×List Nat))(B:List Nat):Bool:=(List.range T.length).all fun d=>match T[d]? with
 |some r=>(B.getD d 0|||upM B d r.1)==upM B d r.1
 |none=>false
theorem upM_bit{B:List Nat}{d i:Nat} : ∀ {ns:List Nat},(upM B d ns).testBit i=true→ ∃n∈ns,n=i∨(n<d∧(B.getD n 0).testBit i=true)
 | [],h=>by simp[upM]at h
 |n::r,h=>by
  unfold upM at h;rw[Nat.testBit_or,Nat.testBit_or,Bool.or_eq_true,Bool.or_eq_true]at h
  rcases h with(h|h)|h
  ·rw[Nat.testBit_two_pow]at h
   exact⟨n,List.mem_cons_self,.inl (by simpa using h)⟩
  ·by_cases hn:n<d
   ·rw[if_pos hn]at h
    exact⟨n,List.mem_cons_self,.inr ⟨hn,h⟩⟩
   ·rw[if_neg hn]at h
    simp at h
  ·obtain⟨m,hm,h2⟩:=upM_bit h;exact⟨m,List.mem_cons_of_mem _ hm,h2⟩
theorem reach_bit{T:List (List Nat×List Nat)}{B:List Nat}(hB:waitsOk T B=true): ∀(fuel d:Nat),d<fuel→d<T.length→(B.getD d 0).testBit i=true→reachT T i fuel d=true
 |0,d,h,_,_=>by omega
 |fuel+1,d,h,hd,hb=>by
  have h1:=List.all_eq_true.1 hB d (List.mem_range.2 hd)
  cases hr:T[d]? with
  |none=>rw[hr]at h1;simp at h1
  |some r=>
   rw[hr]at h1
   simp only[beq_iff_eq]at h1;have h2:(upM B d r.1).testBit i=true:=by rw[←h1,Nat.testBit_or,hb,Bool.true_or]
   obtain⟨n,hn,h3⟩:=upM_bit h2;unfold reachT;rw[hr];simp only;rw[List.any_eq_true];refine⟨n,hn,?_⟩;rcases h3 with rfl|⟨h4,h5⟩
   ·simp
   ·rw[reach_bit hB fuel n (by omega) (by omega) h5,Bool.or_true]
def lastW(T:List (List Nat×List Nat))(B:List Nat)(l:List Bool)(ds:List Nat)(i:Nat):Bool:=ds.all fun d=>l.getD d true||(decide (d<T.length)&&(B.getD d 0).testBit i)
def takeW(T:Bool×List (List Nat×List Nat))(B:List Nat)(ds:List Nat)(l l':List Bool)(i:Nat):Bool:=T.1&&freeT T.2 l i&&readyAt T.2 l i&&closedT T.2 l&&lastW T.2 B l ds i&&(l.set i true==l')
theorem take_ofW{B:List Nat}(hT:rtab md ops=T)(hB:waitsOk T.2 B=true)(h:takeW T B ds l.toList l'.toList i=true):takeB md ops ds l l' i=true:=by
 refine take_of hT ?_;simp only[takeW,takeT,Bool.and_eq_true]at h⊢;obtain⟨⟨⟨⟨⟨h1,h2⟩,h3⟩,h4⟩,h5⟩,h6⟩:=h;refine⟨⟨⟨⟨⟨h1,h2⟩,h3⟩,h4⟩,?_⟩,h6⟩;unfold lastW at h5;unfold lastT;rw[List.all_eq_true]at h5⊢
 intro d hd;have h7:=h5 d hd;rw[Bool.or_eq_true,Bool.and_eq_true,decide_eq_true_eq]at h7
 rcases h7 with h7|⟨h8,h9⟩
 ·rw[h7,Bool.true_or]
 ·rw[reach_bit hB _ d h8 h8 h9,Bool.or_true]
theorem with_tabW{P:Program}{Q:Exit→Act→World→Prop}{S:World→Prop}{n:Nat}{a:Act}{w:World}{B:List Nat}(hT:rtab md ops=T)(hB:waitsOk T.2 B=true)(h:Aside0 (rtab md ops=T)→Aside0 (waitsOk T.2 B=true)→wpAnyLast P md ops Q S ds n l a w):wpAnyLast P md ops Q S ds n l a w:=h ⟨hT⟩ ⟨hB⟩
end
def opsIn:Code→Nat→Option (Array Oper)
 | .region id ops _,k=>if id==k then some ops else none
 | .seq a b,k=>match opsIn a k with
   |some o=>some o
   |none=>opsIn b k
 | .cond _ a b,k=>match opsIn a k with
   |some o=>some o
   |none=>opsIn b k
 | .block _ c,k=>opsIn c k
 | .loop c,k=>opsIn c k
 | .scope c,k=>opsIn c k
 | .rangeFunc _ _ a b,k=>match opsIn a k with
   |some o=>some o
   |none=>opsIn b k
 |_,_=>none
def opsOf(f:Func)(k:Nat):Array Oper:=((f.body.bind fun c=>opsIn c k)).getD #[]
end Go.Proofs.YtkagobkedifhkaaDoorW.PrintLast
namespace Go.Proofs.YtkagobkedifhkaaDoorW.PrintWords
open Go.RowKit
section
variable {P:Program} {ops:Array Oper} {rest:List Oper} {o:Oper} {a:Act} {Q:Exit→Act→World→Prop} {W:World}
theorem gate_guard(hw:Region.wanted o (yielded ops a.tmps)=true)(h:wpList P ops Q ({ o with guard:=none } ::rest) a W):wpList P ops Q (o::rest) a W:=by
 have h1:Region.wanted { o with guard:=none } (yielded ops a.tmps)=true:=rfl;unfold wpList at h⊢;rw[if_pos h1]at h
 rw[if_pos hw];exact h
end
end Go.Proofs.YtkagobkedifhkaaDoorW.PrintWords
namespace Go.Proofs.YtkagobkedifhkaaDoorW.PrintLast
end Go.Proofs.YtkagobkedifhkaaDoorW.PrintLast
namespace Go.Proofs.YtkagobkedifhkaaDoorW.PrintMore
open Go.RowKit Go.Proofs.YtkagobkedifhkaaDoorW.PrintWords
namespace Kd
open Go.Proofs.YtkagobkedifhkaaDoorW.PrintWords.Kd
end Kd
theorem max2_int(k k':IntKind)(x y:Int):Builtin.max2 (.int k x) (.int k' y)=pure (.int k (if x<y then y else x)):=by simp only[Builtin.max2,gt_iff_lt]
theorem min2_int(k k':IntKind)(x y:Int):Builtin.min2 (.int k x) (.int k' y)=pure (.int k (if y<x then y else x)):=by simp only[Builtin.min2]
theorem max_two(ats:Array TypeId)(ty:TypeId)(a b:Value):Builtin.max_ ats ty #[a,b] =(Builtin.max2 a b >>= fun s=>pure s):=by simp only[Builtin.max_,List.foldlM_cons,List.foldlM_nil]
theorem min_two(ats:Array TypeId)(ty:TypeId)(a b:Value):Builtin.min_ ats ty #[a,b] =(Builtin.min2 a b >>= fun s=>pure s):=by simp only[Builtin.min_,List.foldlM_cons,List.foldlM_nil]
theorem max_three(ats:Array TypeId)(ty:TypeId)(a b c:Value):Builtin.max_ ats ty #[a,b,c] =(Builtin.max2 a b >>= fun s=>Builtin.max2 s c >>= fun s=>pure s):=by simp only[Builtin.max_,List.foldlM_cons,List.foldlM_nil]
theorem min_three(ats:Array TypeId)(ty:TypeId)(a b c:Value):Builtin.min_ ats ty #[a,b,c] =(Builtin.min2 a b >>= fun s=>Builtin.min2 s c >>= fun s=>pure s):=by simp only[Builtin.min_,List.foldlM_cons,List.foldlM_nil]
theorem max_four(ats:Array TypeId)(ty:TypeId)(a b c d:Value):Builtin.max_ ats ty #[a,b,c,d] =(Builtin.max2 a b >>= fun s=>Builtin.max2 s c >>= fun s=>Builtin.max2 s d >>= fun s=>pure s):=by simp only[Builtin.max_,List.foldlM_cons,List.foldlM_nil]
theorem min_four(ats:Array TypeId)(ty:TypeId)(a b c d:Value):Builtin.min_ ats ty #[a,b,c,d] =(Builtin.min2 a b >>= fun s=>Builtin.min2 s c >>= fun s=>Builtin.min2 s d >>= fun s=>pure s):=by simp only[Builtin.min_,List.foldlM_cons,List.foldlM_nil]
end Go.Proofs.YtkagobkedifhkaaDoorW.PrintMore
namespace Go.Proofs.YtkagobkedifhkaaDoorW.PrintWords
open Go.RowKit
section
variable {P:Program} {ops:Array Oper} {rest:List Oper} {o:Oper} {a:Act} {Q:Exit→Act→World→Prop} {W:World}
theorem gate_builtin{b:Builtin}{xs:Array Operand}{ts:Array TypeId}(_ho:o.op= .call { callee:= .builtin b,args:=xs,argTypes:=ts })(h:wpList P ops Q (o::rest) a W):wpList P ops Q (o::rest) a W:=h
end
def shl(k:IntKind)(x y:Int):Int:=k.wrap (x*2^min y.toNat k.bits)
def shr(k:IntKind)(x y:Int):Int:=x / 2^min y.toNat k.bits
theorem shl_small{k:IntKind}{x y j:Int}(h:shl k x y=j)(hy:y≤k.bits):k.wrap (x*2^y.toNat)=j:=by rw[←h];unfold shl;rw[Nat.min_eq_left (by omega)]
theorem shr_small{k:IntKind}{x y j:Int}(h:shr k x y=j)(hy:y≤k.bits):x / 2^y.toNat=j:=by rw[←h];unfold shr;rw[Nat.min_eq_left (by omega)]
theorem drewN_self(w:World)(n:Nat):w.drewN n=w.drewN n:=rfl
namespace Kd
section
variable {α:Type} {d:Kd α} {e base b b' g N:Nat} {ok ok1:Nat→Prop} {W W2 w1:World} {u v:Value} {xs ys:List α} {S:Nat→Prop}
end
end Kd
end Go.Proofs.YtkagobkedifhkaaDoorW.PrintWords
namespace Go.Proofs.YtkagobkedifhkaaDoorW.PrintWords
open Go.RowKit
namespace Kd
def V{α:Type}(d:Kd α)(_e:Nat)(W:World)(_base:Nat)(ok:Nat→Prop)(v:Value)(xs:List α):Prop:= ∃A c,v= .slice A xs.length c∧xs.length≤c∧F d W ok A xs.length xs
section
variable {α β:Type} {d:Kd α} {e base base' n m c g N' lo hi:Nat} {ok ok' S:Nat→Prop} {w W w1:World} {A:Option Addr} {ad:Addr} {u v v1:Value} {xs:List α}
theorem V_map(h:V d e W base ok v xs)(hF: ∀A,F d W ok A xs.length xs→F d w1 ok' A xs.length xs):V d e w1 base' ok' v xs:=by
 obtain⟨A,c,hv,hl,hf⟩:=h;exact⟨A,c,hv,hl,hF A hf⟩
theorem V_mk(hl:xs.length≤c)(hf:F d W ok A xs.length xs):V d e W base ok (.slice A xs.length c) xs:=⟨A,c,rfl,hl,hf⟩
theorem V_slice(h:V d e W base ok v xs): ∃A c,v= .slice A xs.length c:=by
 obtain⟨A,c,hv,_⟩:=h;exact⟨A,c,hv⟩
theorem V_at(h:V d e W base ok (.slice A n c) xs):n=xs.length∧n≤c∧F d W ok A xs.length xs:=by
 obtain⟨A',c',hv,hl,hf⟩:=h;injection hv with ha hn hc;subst ha;subst hc;exact⟨hn,by rw[hn];exact hl,hf⟩
theorem V_reads'(h:V d e W base ok (.slice A n c) xs):n=xs.length∧n≤c∧d.C W A xs.length xs:=⟨(V_at h).1,(V_at h).2.1,F_now (V_at h).2.2⟩
theorem V_nil(d:Kd α)(e:Nat)(W:World)(base:Nat)(ok:Nat→Prop):V d e W base ok (.slice none 0 0) []:=⟨none,0,rfl,Nat.le_refl _,F_nil d W ok⟩
theorem V_mono(h:V d e W base ok v xs)(hok: ∀k,ok k→ok' k):V d e W base ok' v xs:=V_map h (fun _ hf=>F_mono hf hok)
theorem V_lower(h:V d e W base ok v xs)(_:base'≤base):V d e W base' ok v xs:=h
theorem V_below(h:V d e W base ok v xs)(hb:Below W.heap.size W w1):V d e w1 base ok v xs:=V_map h (fun _ hf=>F_below hf hb)
theorem V_drew(h:V d e W base ok v xs):V d e W.drew base ok v xs:=V_map h (fun _ hf=>F_drew hf)
theorem V_far(h:V d e W base ok v xs){p:Addr}(hok: ∀k,ok k→k≠p.block)(u:Value):V d e (W.setCell p u) base ok v xs:=V_map h (fun _ hf=>F_far hf hok u)
theorem V_elder'(h:V d e W base ok v xs)(hbase: ∀k,u.ownBlock=some k→W.heap.size≤k)(hb:Below W.heap.size W w1):V d e w1 base (fun k=>ok k∧some k≠u.ownBlock) v xs:=V_map h (fun _ hf=>F_elder' hf hbase hb)
theorem V_elderB(h:V d e W base ok v xs)(a:Nat)(ha:W.heap.size≤a):V d e W base (fun k=>ok k∧k≠a) v xs:=V_map h (fun _ hf=>F_elderB hf a ha)
end
end Kd
end Go.Proofs.YtkagobkedifhkaaDoorW.PrintWords
namespace Go.Proofs.YtkagobkedifhkaaDoorW.PrintWords
theorem Reps.one{α:Type}{R:α→List Value→Prop}{ps:List α}{cs:List Value}{p:α}{v:Value}(hp:R p [v])(h:Reps R 1 ps cs):Reps R 1 (p::ps) (v::cs):=by
 refine⟨by simp[h.1],fun j q hq=>?_⟩
 cases j with
 |zero=>
  simp only[List.getElem?_cons_zero,Option.some.injEq]at hq;subst hq;simpa using hp
 |succ j=>
  simp only[List.getElem?_cons_succ]at hq;have h1:=h.2 j q hq;simpa[Nat.mul_one]using h1
end Go.Proofs.YtkagobkedifhkaaDoorW.PrintWords
namespace Go
theorem zL.{u} : (∀ {α : Type u} (l : List α) (i : Nat) (a : α), l.toArray.setIfInBounds i a = (l.set i a).toArray) ∧ (∀ {α : Type u} (x : α) (xs : List α) (a : α), (x :: xs).set 0 a = a :: xs) ∧ (∀ {α : Type u} (x : α) (xs : List α) (i : Nat) (a : α), (x :: xs).set (i + 1) a = x :: xs.set i a) := ⟨fun l i a => by simp, fun _ _ _ => rfl, fun _ _ _ _ => rfl⟩
theorem za{p:Prop}(h:p:=by omega):p:=h
theorem zb{p:Prop}(h:p:=by kernel_rfl):p:=h
theorem zc{p:Prop}(h:p:=by decide):p:=h
theorem zd{p:Prop}(h:p:=by simp):p:=h
theorem ze{p:Prop}(h:p:=by rfl):p:=h
theorem zf{p:Prop}(h:p:=by show w.heap.size≤w.heap.size+1;omega):p:=h
theorem zg{p:Prop}(h:p:=by simp only[List.map_toArray,List.map_cons,List.map_nil];rfl):p:=h
theorem zh{p:Prop}(h:p:=by first|(simp only[putAll,Act.put,zL];done)|(simp only[putAll,Act.put,zL];rfl)):p:=h
theorem zi{p:Prop}(h:p:=by repeat(first|(with_reducible first|exact HB.out|apply below_alloc|apply pw_below_drewN|apply below_drew1)|exact HB.out|exact Below.refl _ _)):p:=h
theorem zj{p:Prop}(h:p:=by assumption):p:=h
theorem zk{p:Prop}(h:p:=by rw[e_];rfl):p:=h
theorem zl{p:Prop}(h:p:=by simp;omega):p:=h
theorem zm{p:Prop}(h:p:=by repeat(first|(with_reducible first|exact HB.out|apply below_alloc|apply pw_below_drewN|apply below_drew1|refine below_set ?_ (Aside0.out (by assumption)))|exact HB.out)):p:=h
theorem zn{p:Prop}(h:p:=by show w.heap.size≤w.heap.size+2;omega):p:=h
theorem zo{p:Prop}(h:p:=by refine bkR ?_;refine blk_far ?_ O.out _;refine bkR ?_;refine blk_far ?_ O.out _;refine bkR ?_;refine blk_far ?_ O.out _;refine bkR ?_;exact D.out):p:=h
theorem zp{p:Prop}(h:p:=by simp[Value.ownBlock]):p:=h
theorem zq{p:Prop}(h:p:=by refine bkR ?_;refine blk_put (cs:= #[.int .i64 ab,.int .i64 af,.slice none 0 0]) ?_ 2 _ rfl;refine bkR ?_;refine blk_put (cs:= #[.int .i64 ab,.int .i64 0,.slice none 0 0]) ?_ 1 _ rfl;refine bkR ?_;refine blk_put (cs:= #[.int .i64 0,.int .i64 0,.slice none 0 0]) ?_ 0 _ rfl;refine bkR ?_;exact I.out):p:=h
theorem zr{p:Prop}(h:p:=by refine bkR ?_;refine blk_far ?_ J.out _;refine bkR ?_;refine blk_far ?_ J.out _;refine bkR ?_;refine blk_far ?_ J.out _;refine bkR ?_;exact G.out):p:=h
theorem zt{p:Prop}(h:p:=by simp only[putAll,Act.put,zL]):p:=h
theorem zu{p:Prop}(h:p:=by simpa using ht):p:=h
theorem zw{p:Prop}(h:p:=by refine bkR ?_;refine blk_put (cs:= #[.int .i64 ak,.int .i64 ao,.slice none 0 0]) ?_ 2 _ rfl;refine bkR ?_;refine blk_put (cs:= #[.int .i64 ak,.int .i64 0,.slice none 0 0]) ?_ 1 _ rfl;refine bkR ?_;refine blk_put (cs:= #[.int .i64 0,.int .i64 0,.slice none 0 0]) ?_ 0 _ rfl;refine bkR ?_;exact I.out):p:=h
theorem zx{p:Prop}(h:p:=by refine bkR ?_;refine blk_put (cs:= #[.int .i64 ag,.int .i64 aj,.slice none 0 0]) ?_ 2 _ rfl;refine bkR ?_;refine blk_put (cs:= #[.int .i64 ag,.int .i64 0,.slice none 0 0]) ?_ 1 _ rfl;refine bkR ?_;refine blk_put (cs:= #[.int .i64 0,.int .i64 0,.slice none 0 0]) ?_ 0 _ rfl;refine bkR ?_;exact G.out):p:=h
theorem zy{p:Prop}(h:p:=by refine bkR ?_;refine blk_far ?_ X.out _;refine bkR ?_;refine blk_far ?_ X.out _;refine bkR ?_;refine blk_far ?_ X.out _;refine bkR ?_;exact G.out):p:=h
theorem zz{p:Prop}(h:p:=by refine bkR ?_;refine blk_far ?_ L.out _;refine bkR ?_;refine blk_far ?_ L.out _;refine bkR ?_;refine blk_far ?_ L.out _;refine bkR ?_;exact D.out):p:=h
theorem zaa{p:Prop}(h:p:=by rw[List.length_take];omega):p:=h
theorem zab{p:Prop}(h:p:=by have:=S.small;omega):p:=h
theorem zac{p:Prop}(h:p:=by refine bkR ?_;refine blk_put (cs:= #[.int .i64 0,.int .i64 0,.slice none 0 0]) ?_ 2 _ rfl;refine bkR ?_;refine blk_put (cs:= #[.int .i64 0,.int .i64 L,.slice none 0 0]) ?_ 1 _ rfl;refine bkR ?_;refine blk_put (cs:= #[.int .i64 U,.int .i64 L,.slice none 0 0]) ?_ 0 _ rfl;refine bkR ?_;exact G.out):p:=h
theorem zad{p:Prop}(h:p:=by refine bkR ?_;refine blk_far ?_ G.out _;refine bkR ?_;refine blk_far ?_ G.out _;refine bkR ?_;refine blk_far ?_ G.out _;refine bkR ?_;exact D.out):p:=h
theorem zae{p:Prop}(h:p:=by show w.heap.size≤w.heap.size+1+1;omega):p:=h
theorem zaf{p:Prop}(h:p:=by rw[ints_length];exact setL_length s):p:=h
theorem zag{p:Prop}(h:p:=by rw[unitsTo_length];exact hlt):p:=h
theorem zah{p:Prop}(h:p:=by rw[decide_eq_true_eq];omega):p:=h
theorem zai{p:Prop}(h:p:=by rw[rowsOf_length];exact h0):p:=h
theorem zaj{p:Prop}(h:p:=by rw[ints_length];omega):p:=h
theorem zak{p:Prop}(h:p:=by rw[HLE.out];exact hkl):p:=h
theorem zal{p:Prop}(h:p:=by have:=HLN.out;omega):p:=h
theorem zam{p:Prop}(h:p:=by refine bkR ?_;refine blk_put (cs:= #[.int .i64 ax,.int .i64 a3,.slice none 0 0]) ?_ 2 _ rfl;refine bkR ?_;refine blk_put (cs:= #[.int .i64 ax,.int .i64 0,.slice none 0 0]) ?_ 1 _ rfl;refine bkR ?_;refine blk_put (cs:= #[.int .i64 0,.int .i64 0,.slice none 0 0]) ?_ 0 _ rfl;refine bkR ?_;exact Z.out):p:=h
theorem zan{p:Prop}(h:p:=by refine bkR ?_;refine blk_put (cs:= #[.int .i64 a0,.int .i64 a1,.slice none 0 0]) ?_ 2 _ rfl;refine bkR ?_;refine blk_put (cs:= #[.int .i64 a0,.int .i64 0,.slice none 0 0]) ?_ 1 _ rfl;refine bkR ?_;refine blk_put (cs:= #[.int .i64 0,.int .i64 0,.slice none 0 0]) ?_ 0 _ rfl;refine bkR ?_;exact D.out):p:=h
theorem zao{p:Prop}(h:p:=by refine bkR ?_;refine blk_put (cs:= #[.int .i64 X,.int .i64 aa,.slice none 0 0]) ?_ 2 _ rfl;refine bkR ?_;refine blk_put (cs:= #[.int .i64 X,.int .i64 0,.slice none 0 0]) ?_ 1 _ rfl;refine bkR ?_;refine blk_put (cs:= #[.int .i64 0,.int .i64 0,.slice none 0 0]) ?_ 0 _ rfl;refine bkR ?_;exact O.out):p:=h
theorem zap{p:Prop}(h:p:=by refine bkR ?_;refine blk_put (cs:= #[.int .i64 O,.int .i64 Y,.slice none 0 0]) ?_ 2 _ rfl;refine bkR ?_;refine blk_put (cs:= #[.int .i64 O,.int .i64 0,.slice none 0 0]) ?_ 1 _ rfl;refine bkR ?_;refine blk_put (cs:= #[.int .i64 0,.int .i64 0,.slice none 0 0]) ?_ 0 _ rfl;refine bkR ?_;exact J.out):p:=h
theorem zaq{p:Prop}(h:p:=by refine bkR ?_;refine blk_put (cs:= #[.int .i64 0,.int .i64 0,.slice none 0 0]) ?_ 2 _ rfl;refine bkR ?_;refine blk_put (cs:= #[.int .i64 0,.int .i64 0,.slice none 0 0]) ?_ 1 _ rfl;refine bkR ?_;refine blk_put (cs:= #[.int .i64 0,.int .i64 0,.slice none 0 0]) ?_ 0 _ rfl;refine bkR ?_;exact I.out):p:=h
theorem zar{p:Prop}(h:p:=by refine bkR ?_;refine blk_put (cs:= #[.int .i64 0,.int .i64 0,.slice none 0 0]) ?_ 2 _ rfl;refine bkR ?_;refine blk_put (cs:= #[.int .i64 0,.int .i64 0,.slice none 0 0]) ?_ 1 _ rfl;refine bkR ?_;refine blk_put (cs:= #[.int .i64 0,.int .i64 0,.slice none 0 0]) ?_ 0 _ rfl;refine bkR ?_;exact D.out):p:=h
theorem zas{p:Prop}(h:p:=by refine bkR ?_;refine blk_far ?_ am.out _;refine bkR ?_;refine blk_far ?_ am.out _;refine bkR ?_;refine blk_far ?_ am.out _;refine bkR ?_;exact I.out):p:=h
theorem zat{p:Prop}(h:p:=by refine bkR ?_;refine blk_far ?_ al.out _;refine bkR ?_;refine blk_far ?_ al.out _;refine bkR ?_;refine blk_far ?_ al.out _;refine bkR ?_;exact D.out):p:=h
theorem zau{p:Prop}(h:p:=by refine bkR ?_;refine blk_far ?_ ae.out _;refine bkR ?_;refine blk_far ?_ ae.out _;refine bkR ?_;refine blk_far ?_ ae.out _;refine bkR ?_;exact G.out):p:=h
theorem zav{p:Prop}(h:p:=by refine bkR ?_;refine blk_far ?_ I.out _;refine bkR ?_;refine blk_far ?_ I.out _;refine bkR ?_;refine blk_far ?_ I.out _;refine bkR ?_;exact D.out):p:=h
theorem zaw{p:Prop}(h:p:=by rw[flat_len hU,hlen];exact Int.ofNat_lt.2 hix):p:=h
end Go
namespace Go.Proofs.YtkagobkedifhkaaDoor.Q
open Go.RowKit Go.Proofs.YtkagobkedifhkaaDoorW.PrintWords Go.Proofs.YtkagobkedifhkaaDoorW.PrintLast Go.Proofs.YtkagobkedifhkaaDoorW.PrintMore
set_option linter.unusedVariables false
theorem rsE{p:Prop}(h:p:=by first|rfl|(simp;done)|(simp[*];done)):p:=h
theorem leE{p:Prop}(h:p:=by first|omega|exact Nat.le_refl _):p:=h
theorem bkA{w W:World}{g:Nat}{o:Obj}(h:w.heap[g]? =some o)(k:w.heap[g]? =some o→W.heap[g]? =some o:=by intro h_;(with_reducible repeat(first|refine blk_drewN ?_ _|refine blk_drew ?_|refine blk_alloc ?_ _));exact h_):W.heap[g]? =some o:=k h
theorem bkB{w w1 W:World}{g:Nat}{o:Obj}(B:Aside0 (w.heap[g]? =some o))(hb:Below w1.heap.size w1 W)(k:w.heap[g]? =some o→w1.heap[g]? =some o:=by intro h_;(with_reducible repeat(first|refine blk_drewN ?_ _|refine blk_drew ?_|refine blk_alloc ?_ _));exact h_):Aside0 (W.heap[g]? =some o):=⟨blk_below (k B.out) hb⟩
theorem bkG{w w1 W:World}{g:Nat}{o:Obj}{row:Option Nat}(B:Aside0 (w.heap[g]? =some o))(hg:w1.grownBy W row)(hne:some g≠row)(k:w.heap[g]? =some o→w1.heap[g]? =some o:=by intro h_;(with_reducible repeat(first|refine blk_drewN ?_ _|refine blk_drew ?_|refine blk_alloc ?_ _));exact h_):Aside0 (W.heap[g]? =some o):=⟨blk_grown (k B.out) hg hne⟩
theorem bkR{w W:World}{g:Nat}{o:Obj}(h:w.heap[g]? =some o)(k:w.heap[g]? =some o→W.heap[g]? =some o:=by intro h_;(with_reducible repeat(first|refine blk_drewN ?_ _|refine blk_drew ?_|refine blk_alloc ?_ _));exact h_):W.heap[g]? =some o:=k h
theorem neL{w W:World}{g g':Nat}{o:Obj}(B:Aside0 (w.heap[g]? =some o))(hg:g'=W.heap.size)(k:w.heap[g]? =some o→W.heap[g]? =some o:=by intro h_;(with_reducible repeat(first|refine blk_drewN ?_ _|refine blk_drew ?_|refine blk_alloc ?_ _));exact h_):Aside0 (g≠g'):=⟨by rw[hg];exact Nat.ne_of_lt (blk_lt (k B.out))⟩
theorem neG{w W:World}{g g':Nat}{o:Obj}(B:Aside0 (w.heap[g]? =some o))(hg:g'=W.heap.size)(k:w.heap[g]? =some o→W.heap[g]? =some o:=by intro h_;(with_reducible repeat(first|refine blk_drewN ?_ _|refine blk_drew ?_|refine blk_alloc ?_ _));exact h_):Aside0 (g'≠g):=⟨by rw[hg];exact Nat.ne_of_gt (blk_lt (k B.out))⟩
theorem asE{p:Prop}(h:p:=by first|(with_reducible assumption)|assumption):p:=h
theorem rfE{p:Prop}(h:p:=by first|rfl|(simp[errW_none,errW_some]<;>rfl)|(simp[*,errW_none,errW_some]<;>rfl)):p:=h
theorem nilE{p:Prop}(h:p:=by first|exact Kd.R_nil _ _ _ _ _|exact Kd.N_nil _ _ _ _ _|exact Kd.V_nil _ _ _ _ _|exact Kd.Q_nil _ _ _ _ _|exact Kd.S_nil _ _ _ _ _):p:=h
theorem nofT: ¬(false=true):=by decide
theorem bindO{α β:Type}{x:Option α}{f:α→Option β}{r:β}(h:x.bind f=some r): ∃a,Aside0 (x=some a)∧f a=some r:=by
 obtain⟨a,h1,h2⟩:=Option.bind_eq_some_iff.mp h;exact⟨a,⟨h1⟩,h2⟩
theorem hbA{b:Nat}{w W W':World}(h:Below b w W)(k:Below b w W→Below b w W':=by intro h_;repeat(first|(with_reducible first|exact h_|apply below_alloc|apply pw_below_drewN|apply below_drew1|refine below_set ?_ (Aside0.out zj))|exact h_)):Below b w W':=k h
theorem hbB{w W1 W2 W:World}(B:Aside0 (Below w.heap.size w W1))(hb:Below W2.heap.size W2 W)(k:Below w.heap.size w W1→Below w.heap.size w W2:=by intro h_;repeat(first|(with_reducible first|exact h_|apply below_alloc|apply pw_below_drewN|apply below_drew1|refine below_set ?_ (Aside0.out zj))|exact h_)):Aside0 (Below w.heap.size w W):=⟨below_step (k B.out) hb⟩
theorem hbS{w W1 W2:World}{g:Nat}(B:Aside0 (Below w.heap.size w W1))(hg:g=W2.heap.size)(k:Below w.heap.size w W1→Below w.heap.size w W2:=by intro h_;repeat(first|(with_reducible first|exact h_|apply below_alloc|apply pw_below_drewN|apply below_drew1|refine below_set ?_ (Aside0.out zj))|exact h_)):Aside0 (w.heap.size≤g):=⟨hg▸below_size (k B.out)⟩
section
variable {α:Type} {d:Kd α} {e base n:Nat} {w w1 w2 W:World} {ok:Nat→Prop} {v:Value} {xs:List α} {A:Option Addr}
theorem kdA(h:Kd.R d e w base ok v xs)(k:Kd.R d e w base ok v xs→Kd.R d e W base ok v xs:=by intro h_;(with_reducible repeat(first|apply Kd.R_alloc|apply Kd.R_drewN|apply Kd.R_drew));exact h_):Kd.R d e W base ok v xs:=k h
theorem kdB(B:Aside0 (Kd.R d e w base ok v xs))(hb:Below w1.heap.size w1 W)(k:Kd.R d e w base ok v xs→Kd.R d e w1 base ok v xs:=by intro h_;(with_reducible repeat(first|apply Kd.R_alloc|apply Kd.R_drewN|apply Kd.R_drew));exact h_):Aside0 (Kd.R d e W base ok v xs):=⟨Kd.R_below (k B.out) hb⟩
theorem kcA(h:Kd.C d w A n xs)(k:Kd.C d w A n xs→Kd.C d W A n xs:=by intro h_;repeat(first|exact h_|(with_reducible refine Kd.C_alloc ?_ _)|(with_reducible refine Kd.C_drewN ?_ _)|(with_reducible refine Kd.C_drew ?_))):Kd.C d W A n xs:=k h
theorem kcB(H:Aside0 (Kd.C d w A n xs))(B:Aside0 (Below w.heap.size w w1))(k:Kd.C d w1 A n xs→Kd.C d W A n xs:=by intro h_;repeat(first|exact h_|(with_reducible refine Kd.C_alloc ?_ _)|(with_reducible refine Kd.C_drewN ?_ _)|(with_reducible refine Kd.C_drew ?_))):Kd.C d W A n xs:=k (Kd.C_below H.out B.out)
end
section
variable {w:World} {g:Nat} {t:TypeId} {a b c d e f x y:Value}
theorem cell3(h:Aside0 (w.heap[g]? =some (.cells #[a,b,c] t (0,0)))):w.cell? ⟨g,0,none⟩=some a∧w.cell? ⟨g,1,none⟩=some b∧w.cell? ⟨g,2,none⟩=some c∧w.frozen? ⟨g,0,none⟩=false∧w.frozen? ⟨g,1,none⟩=false∧w.frozen? ⟨g,2,none⟩=false:=⟨blk_cell h.out 0,blk_cell h.out 1,blk_cell h.out 2,blk_frozen h.out 0,blk_frozen h.out 1,blk_frozen h.out 2⟩
end
section
variable {P:Program} {ops:Array Oper} {rest:List Oper} {o:Oper} {a:Act} {Q:Exit→Act→World→Prop} {W:World}
theorem gC(f:FuncId){xs:Array Operand}{ts:Array TypeId}(_ho:o.op= .call { callee:= .value (.func f),args:=xs,argTypes:=ts })(h:wpList P ops Q (o::rest) a W):wpList P ops Q (o::rest) a W:=h
theorem gD(N:Tmp)(_hN:o.dst=some N)(h:wpList P ops Q (o::rest) a W):wpList P ops Q (o::rest) a W:=h
theorem cG(N:Option Tmp){f:FuncId}{fn:Func}{xs:Array Operand}{ts:Array TypeId}(hf:P.funcs[f]? =some fn)(args:Array Value)
 (h:Calls P f args W fun e w'=> ∃v,e= .returned v∧wpList P ops Q rest (a.put N v) w') (hd:o.dst=N:=by exact rfl) (hg:o.guard=none:=by exact rfl) (hname:(fn.name== "runtime.NumGoroutine")=false:=by kernel_rfl) (hb:fn.body.isSome=true:=by exact rfl)
 (hop:o.op= .call { callee:= .value (.func f),args:=xs,argTypes:=ts } :=by exact rfl) (hargs:xs.map a.eval=args:=by(try simp only[List.map_toArray,List.map_cons,List.map_nil]);first|done|rfl|(simp only[List.length_drop,List.length_take];rfl)):wpList P ops Q (o::rest) a W:=
 goesL_ N hd hg hf hname hb args hop hargs h
theorem bE(N:Tmp)(cs:Array Value)(t:TypeId)
 (h: ∀g,g=W.heap.size→ ∀w1,w1.heap[g]? =some (.cells cs t (0,0))→Below W.heap.size W w1→wpList P ops Q rest (a.put o.dst (.pointer (some ⟨g,0,none⟩))) w1) (_hd:o.dst=some N:=by exact rfl) (hgd:o.guard=none:=by exact rfl)
 (hrun:(execOp a.eval o).run P W= .ok (.value (.pointer (some ⟨W.heap.size,0,none⟩))) (W.alloc (.cells cs t (0,0))):=by first|(go_simp;done)|(go_simp;rfl)):wpList P ops Q (o::rest) a W:=
 box_event hgd (N:=N) _hd hrun h
end
def mB(n m:Nat):Array Bool:=((List.range n).map fun i=>m.testBit i).toArray
section
variable {P:Program} {ops:Array Oper} {Q:Exit→Act→World→Prop} {md:Region.Mode} {S:World→Prop} {ds:List Nat} {T:Bool×List (List Nat×List Nat)} {B:List Nat} {oi:Oper} {v:Value} {fuel:Nat} {l:Array Bool} {a a':Act} {w:World}
theorem pu(i:Nat)(N:Option Tmp)(l':Array Bool)(hT:Aside0 (rtab md ops=T))(h:wpAnyLast P md ops Q S ds fuel l' a' w)(hi:ops[i]? =some oi:=by exact rfl)(hN:oi.dst=N:=by exact rfl)(hc:anyT T l.toList l'.toList i=true:=by kernel_rfl)
 (hQ: ∀c a w,Q (.panic c) (a.put oi.dst v) w→Q (.panic c) a w:=by exact(fun _ _ _ h=>h)) (hy:Yields P ops oi v a:=by(refine Or.inl ⟨rfl,?_⟩;intro w';go_simp;with_reducible rfl)) (ha:a.put N v=a':=by(simp only[Act.put,zL,i64_w,i32_w];rfl)):wpAnyLast P md ops Q S ds (fuel+1) l a w:=
 pure_ l' hi hN (any_of hT.out hc) hQ hy ha h
theorem tk1(i:Nat)(N:Option Tmp)(l':Array Bool)(hT:Aside0 (rtab md ops=T))(hW:Aside0 (waitsOk T.2 B=true))(hS:S w)(h:wpAnyLast P md ops Q S ds fuel l' a' w)(hi:ops[i]? =some oi:=by exact rfl)(hN:oi.dst=N:=by exact rfl)(hc:takeW T B ds l.toList l'.toList i=true:=by kernel_rfl)
 (hQ: ∀c a w,Q (.panic c) (a.put oi.dst v) w→Q (.panic c) a w:=by exact(fun _ _ _ h=>h)) (hy:YieldsIf P ops S oi v a:=by(refine Or.inl ⟨rfl,?_⟩;rintro w' s0;go_simp;with_reducible rfl)) (ha:a.put N v=a':=by(simp only[Act.put,zL,i64_w,i32_w];rfl)):wpAnyLast P md ops Q S ds (fuel+1) l a w:=
 take_ l' hi hN (take_ofW hT.out hW.out hc) hQ hy hS ha h
theorem tk3(i:Nat)(N:Option Tmp)(l':Array Bool)(hT:Aside0 (rtab md ops=T))(hW:Aside0 (waitsOk T.2 B=true))(hS:S w)(h:wpAnyLast P md ops Q S ds fuel l' a' w)(hi:ops[i]? =some oi:=by exact rfl)(hN:oi.dst=N:=by exact rfl)(hc:takeW T B ds l.toList l'.toList i=true:=by kernel_rfl)
 (hQ: ∀c a w,Q (.panic c) (a.put oi.dst v) w→Q (.panic c) a w:=by exact(fun _ _ _ h=>h)) (hy:YieldsIf P ops S oi v a:=by(refine Or.inl ⟨rfl,?_⟩;rintro w' ⟨s0,s1,s2⟩;go_simp;with_reducible rfl)) (ha:a.put N v=a':=by(simp only[Act.put,zL,i64_w,i32_w];rfl)):wpAnyLast P md ops Q S ds (fuel+1) l a w:=
 take_ l' hi hN (take_ofW hT.out hW.out hc) hQ hy hS ha h
theorem tk4(i:Nat)(N:Option Tmp)(l':Array Bool)(hT:Aside0 (rtab md ops=T))(hW:Aside0 (waitsOk T.2 B=true))(hS:S w)(h:wpAnyLast P md ops Q S ds fuel l' a' w)(hi:ops[i]? =some oi:=by exact rfl)(hN:oi.dst=N:=by exact rfl)(hc:takeW T B ds l.toList l'.toList i=true:=by kernel_rfl)
 (hQ: ∀c a w,Q (.panic c) (a.put oi.dst v) w→Q (.panic c) a w:=by exact(fun _ _ _ h=>h)) (hy:YieldsIf P ops S oi v a:=by(refine Or.inl ⟨rfl,?_⟩;rintro w' ⟨s0,s1,s2,s3⟩;go_simp;with_reducible rfl)) (ha:a.put N v=a':=by(simp only[Act.put,zL,i64_w,i32_w];rfl)):wpAnyLast P md ops Q S ds (fuel+1) l a w:=
 take_ l' hi hN (take_ofW hT.out hW.out hc) hQ hy hS ha h
theorem tk5(i:Nat)(N:Option Tmp)(l':Array Bool)(hT:Aside0 (rtab md ops=T))(hW:Aside0 (waitsOk T.2 B=true))(hS:S w)(h:wpAnyLast P md ops Q S ds fuel l' a' w)(hi:ops[i]? =some oi:=by exact rfl)(hN:oi.dst=N:=by exact rfl)(hc:takeW T B ds l.toList l'.toList i=true:=by kernel_rfl)
 (hQ: ∀c a w,Q (.panic c) (a.put oi.dst v) w→Q (.panic c) a w:=by exact(fun _ _ _ h=>h)) (hy:YieldsIf P ops S oi v a:=by(refine Or.inl ⟨rfl,?_⟩;rintro w' ⟨s0,s1,s2,s3,s4⟩;go_simp;with_reducible rfl)) (ha:a.put N v=a':=by(simp only[Act.put,zL,i64_w,i32_w];rfl)):wpAnyLast P md ops Q S ds (fuel+1) l a w:=
 take_ l' hi hN (take_ofW hT.out hW.out hc) hQ hy hS ha h
theorem tk10(i:Nat)(N:Option Tmp)(l':Array Bool)(hT:Aside0 (rtab md ops=T))(hW:Aside0 (waitsOk T.2 B=true))(hS:S w)(h:wpAnyLast P md ops Q S ds fuel l' a' w)(hi:ops[i]? =some oi:=by exact rfl)(hN:oi.dst=N:=by exact rfl)(hc:takeW T B ds l.toList l'.toList i=true:=by kernel_rfl)
 (hQ: ∀c a w,Q (.panic c) (a.put oi.dst v) w→Q (.panic c) a w:=by exact(fun _ _ _ h=>h)) (hy:YieldsIf P ops S oi v a:=by(refine Or.inl ⟨rfl,?_⟩;rintro w' ⟨s0,s1,s2,s3,s4,s5,s6,s7,s8,s9⟩;go_simp;with_reducible rfl)) (ha:a.put N v=a':=by(simp only[Act.put,zL,i64_w,i32_w];rfl)):wpAnyLast P md ops Q S ds (fuel+1) l a w:=
 take_ l' hi hN (take_ofW hT.out hW.out hc) hQ hy hS ha h
end
end Go.Proofs.YtkagobkedifhkaaDoor.Q
namespace Go.Proofs.YtkagobkedifhkaaDoor.Q
open Go.RowKit Go.Proofs.YtkagobkedifhkaaDoorW.PrintWords Go.Proofs.YtkagobkedifhkaaDoorW.PrintLast Go.Proofs.YtkagobkedifhkaaDoorW.PrintMore
set_option linter.unusedVariables false
theorem aK{p:Prop}(h:p):Aside0 p:=⟨h⟩
theorem zF {α:Type} {d:Kd α} {e base t g:Nat} {ok:Nat→Prop} {w:World} {v:Value} {xs:List α} {cells:Array Value} (h:d.R e w base ok v xs) (hb:w.heap[g]? =some (.cells cells t (0,0))) (u0 u1 u2:Value) (ht: ∀q,q∈e::d.E→q≠t:=by decide):d.R e (((w.setCell ⟨g,0,none⟩ u0).setCell ⟨g,1,none⟩ u1).setCell ⟨g,2,none⟩ u2) base ok v xs:=Kd.R_mono (Kd.R_far (p:=⟨g,2,none⟩) (Kd.R_far (p:=⟨g,1,none⟩) (Kd.R_far (p:=⟨g,0,none⟩) (Kd.R_types h hb ht) (fun _ hk=>hk.2) u0) (fun _ hk=>hk.2) u1) (fun _ hk=>hk.2) u2) (fun _ h_=>h_.1)
section
variable {P:Program} {ops:Array Oper} {Q:Exit→Act→World→Prop} {md:Region.Mode} {S:World→Prop} {ds:List Nat} {T:Bool×List (List Nat×List Nat)} {oi:Oper} {v:Value} {fuel:Nat} {l:Array Bool} {a a':Act} {w:World}
theorem zpu (i:Nat) (N:Option Tmp) (l':Array Bool) (h:wpAnyLast P md ops Q S ds fuel l' a' w) (hi:ops[i]? =some oi:=by exact rfl) (hN:oi.dst=N:=by exact rfl) (hc:anyB md ops l l' i=true:=by kernel_rfl) (hQ: ∀c a w,Q (.panic c) (a.put oi.dst v) w→Q (.panic c) a w:=by exact (fun _ _ _ h=>h)) (hy:Yields P ops oi v a:=by (refine Or.inl ⟨by rfl,?_⟩;intro w';go_simp;with_reducible rfl)) (ha:a.put N v=a':=by (simp only[Act.put,zL,i64_w,i32_w];rfl)):wpAnyLast P md ops Q S ds (fuel+1) l a w:=pure_ l' hi hN hc hQ hy ha h
theorem ztk1 (i:Nat) (N:Option Tmp) (l':Array Bool) (hS:S w) (h:wpAnyLast P md ops Q S ds fuel l' a' w) (hi:ops[i]? =some oi:=by exact rfl) (hN:oi.dst=N:=by exact rfl) (hc:takeB md ops ds l l' i=true:=by kernel_rfl) (hQ: ∀c a w,Q (.panic c) (a.put oi.dst v) w→Q (.panic c) a w:=by exact (fun _ _ _ h=>h)) (hy:YieldsIf P ops S oi v a:=by (refine Or.inl ⟨by rfl,?_⟩;intro w' s0;go_simp;with_reducible rfl)) (ha:a.put N v=a':=by (simp only[Act.put,zL,i64_w,i32_w];rfl)):wpAnyLast P md ops Q S ds (fuel+1) l a w:=take_ l' hi hN hc hQ hy hS ha h
theorem ztk2 (i:Nat) (N:Option Tmp) (l':Array Bool) (hS:S w) (h:wpAnyLast P md ops Q S ds fuel l' a' w) (hi:ops[i]? =some oi:=by exact rfl) (hN:oi.dst=N:=by exact rfl) (hc:takeB md ops ds l l' i=true:=by kernel_rfl) (hQ: ∀c a w,Q (.panic c) (a.put oi.dst v) w→Q (.panic c) a w:=by exact (fun _ _ _ h=>h)) (hy:YieldsIf P ops S oi v a:=by (refine Or.inl ⟨by rfl,?_⟩;rintro w' ⟨s0,s1⟩;go_simp;with_reducible rfl)) (ha:a.put N v=a':=by (simp only[Act.put,zL,i64_w,i32_w];rfl)):wpAnyLast P md ops Q S ds (fuel+1) l a w:=take_ l' hi hN hc hQ hy hS ha h
theorem ztk3 (i:Nat) (N:Option Tmp) (l':Array Bool) (hS:S w) (h:wpAnyLast P md ops Q S ds fuel l' a' w) (hi:ops[i]? =some oi:=by exact rfl) (hN:oi.dst=N:=by exact rfl) (hc:takeB md ops ds l l' i=true:=by kernel_rfl) (hQ: ∀c a w,Q (.panic c) (a.put oi.dst v) w→Q (.panic c) a w:=by exact (fun _ _ _ h=>h)) (hy:YieldsIf P ops S oi v a:=by (refine Or.inl ⟨by rfl,?_⟩;rintro w' ⟨s0,s1,s2⟩;go_simp;with_reducible rfl)) (ha:a.put N v=a':=by (simp only[Act.put,zL,i64_w,i32_w];rfl)):wpAnyLast P md ops Q S ds (fuel+1) l a w:=take_ l' hi hN hc hQ hy hS ha h
theorem ztk4 (i:Nat) (N:Option Tmp) (l':Array Bool) (hS:S w) (h:wpAnyLast P md ops Q S ds fuel l' a' w) (hi:ops[i]? =some oi:=by exact rfl) (hN:oi.dst=N:=by exact rfl) (hc:takeB md ops ds l l' i=true:=by kernel_rfl) (hQ: ∀c a w,Q (.panic c) (a.put oi.dst v) w→Q (.panic c) a w:=by exact (fun _ _ _ h=>h)) (hy:YieldsIf P ops S oi v a:=by (refine Or.inl ⟨by rfl,?_⟩;rintro w' ⟨s0,s1,s2,s3⟩;go_simp;with_reducible rfl)) (ha:a.put N v=a':=by (simp only[Act.put,zL,i64_w,i32_w];rfl)):wpAnyLast P md ops Q S ds (fuel+1) l a w:=take_ l' hi hN hc hQ hy hS ha h
theorem ztk5 (i:Nat) (N:Option Tmp) (l':Array Bool) (hS:S w) (h:wpAnyLast P md ops Q S ds fuel l' a' w) (hi:ops[i]? =some oi:=by exact rfl) (hN:oi.dst=N:=by exact rfl) (hc:takeB md ops ds l l' i=true:=by kernel_rfl) (hQ: ∀c a w,Q (.panic c) (a.put oi.dst v) w→Q (.panic c) a w:=by exact (fun _ _ _ h=>h)) (hy:YieldsIf P ops S oi v a:=by (refine Or.inl ⟨by rfl,?_⟩;rintro w' ⟨s0,s1,s2,s3,s4⟩;go_simp;with_reducible rfl)) (ha:a.put N v=a':=by (simp only[Act.put,zL,i64_w,i32_w];rfl)):wpAnyLast P md ops Q S ds (fuel+1) l a w:=take_ l' hi hN hc hQ hy hS ha h
theorem ztk6 (i:Nat) (N:Option Tmp) (l':Array Bool) (hS:S w) (h:wpAnyLast P md ops Q S ds fuel l' a' w) (hi:ops[i]? =some oi:=by exact rfl) (hN:oi.dst=N:=by exact rfl) (hc:takeB md ops ds l l' i=true:=by kernel_rfl) (hQ: ∀c a w,Q (.panic c) (a.put oi.dst v) w→Q (.panic c) a w:=by exact (fun _ _ _ h=>h)) (hy:YieldsIf P ops S oi v a:=by (refine Or.inl ⟨by rfl,?_⟩;rintro w' ⟨s0,s1,s2,s3,s4,s5⟩;go_simp;with_reducible rfl)) (ha:a.put N v=a':=by (simp only[Act.put,zL,i64_w,i32_w];rfl)):wpAnyLast P md ops Q S ds (fuel+1) l a w:=take_ l' hi hN hc hQ hy hS ha h
theorem ztk7 (i:Nat) (N:Option Tmp) (l':Array Bool) (hS:S w) (h:wpAnyLast P md ops Q S ds fuel l' a' w) (hi:ops[i]? =some oi:=by exact rfl) (hN:oi.dst=N:=by exact rfl) (hc:takeB md ops ds l l' i=true:=by kernel_rfl) (hQ: ∀c a w,Q (.panic c) (a.put oi.dst v) w→Q (.panic c) a w:=by exact (fun _ _ _ h=>h)) (hy:YieldsIf P ops S oi v a:=by (refine Or.inl ⟨by rfl,?_⟩;rintro w' ⟨s0,s1,s2,s3,s4,s5,s6⟩;go_simp;with_reducible rfl)) (ha:a.put N v=a':=by (simp only[Act.put,zL,i64_w,i32_w];rfl)):wpAnyLast P md ops Q S ds (fuel+1) l a w:=take_ l' hi hN hc hQ hy hS ha h
theorem ztk9 (i:Nat) (N:Option Tmp) (l':Array Bool) (hS:S w) (h:wpAnyLast P md ops Q S ds fuel l' a' w) (hi:ops[i]? =some oi:=by exact rfl) (hN:oi.dst=N:=by exact rfl) (hc:takeB md ops ds l l' i=true:=by kernel_rfl) (hQ: ∀c a w,Q (.panic c) (a.put oi.dst v) w→Q (.panic c) a w:=by exact (fun _ _ _ h=>h)) (hy:YieldsIf P ops S oi v a:=by (refine Or.inl ⟨by rfl,?_⟩;rintro w' ⟨s0,s1,s2,s3,s4,s5,s6,s7,s8⟩;go_simp;with_reducible rfl)) (ha:a.put N v=a':=by (simp only[Act.put,zL,i64_w,i32_w];rfl)):wpAnyLast P md ops Q S ds (fuel+1) l a w:=take_ l' hi hN hc hQ hy hS ha h
theorem zpn (i:Nat) (N:Option Tmp) (l':Array Bool) (h:wpAnyLast P md ops Q S ds fuel l' a' w) (hi:ops[i]? =some oi:=by exact rfl) (hN:oi.dst=N:=by exact rfl) (hc:anyB md ops l l' i=true:=by kernel_rfl) (hQ: ∀c a w,Q (.panic c) (a.put oi.dst undef) w→Q (.panic c) a w:=by exact (fun _ _ _ h=>h)) (hy:Yields P ops oi undef a:=by exact (Or.inr ⟨by rfl,rfl⟩)) (ha:a.put N undef=a':=by (simp only[Act.put,zL,i64_w,i32_w];rfl)):wpAnyLast P md ops Q S ds (fuel+1) l a w:=pure_ l' hi hN hc hQ hy ha h
theorem zpo (i:Nat) (N:Option Tmp) (l':Array Bool) (hT:Aside0 (rtab md ops=T)) (h:wpAnyLast P md ops Q S ds fuel l' a' w) (hi:ops[i]? =some oi:=by exact rfl) (hN:oi.dst=N:=by exact rfl) (hc:anyT T l.toList l'.toList i=true:=by kernel_rfl) (hQ: ∀c a w,Q (.panic c) (a.put oi.dst undef) w→Q (.panic c) a w:=by exact (fun _ _ _ h=>h)) (hy:Yields P ops oi undef a:=by exact (Or.inr ⟨by rfl,rfl⟩)) (ha:a.put N undef=a':=by (simp only[Act.put,zL,i64_w,i32_w];rfl)):wpAnyLast P md ops Q S ds (fuel+1) l a w:=pure_ l' hi hN (any_of hT.out hc) hQ hy ha h
theorem zon (i:Nat) (N:Option Tmp) (l':Array Bool) (h: ∀K:Act→World→Prop,Shut (∀a' w',S w'→(S w'→wpAnyLast P md ops Q S ds fuel l' a' w')→K a' w')→if Region.wanted oi (yielded ops a.tmps)=true then Oper.wp P oi a w K Q else K (a.put N undef) w) (hi:ops[i]? =some oi:=by exact rfl) (hN:oi.dst=N:=by exact rfl) (hc:readyB md ops l l' i=true:=by kernel_rfl) (hd:i∉ds:=by decide):wpAnyLast P md ops Q S ds (fuel+1) l a w:=one_ l' hi hN hc hd h
theorem zoh (i:Nat) (N:Option Tmp) (l':Array Bool) (hT:Aside0 (rtab md ops=T)) (h: ∀K:Act→World→Prop,Shut (∀a' w',S w'→(S w'→wpAnyLast P md ops Q S ds fuel l' a' w')→K a' w')→if Region.wanted oi (yielded ops a.tmps)=true then Oper.wp P oi a w K Q else K (a.put N undef) w) (hi:ops[i]? =some oi:=by exact rfl) (hN:oi.dst=N:=by exact rfl) (hc:(readyT T.2 l.toList==[i]&&l.toList.set i true==l'.toList)=true:=by kernel_rfl) (hd:i∉ds:=by decide):wpAnyLast P md ops Q S ds (fuel+1) l a w:=one_ l' hi hN (one_of hT.out hc) hd h
theorem zln (i:Nat) (N:Option Tmp) (l':Array Bool) (h: ∀K:Act→World→Prop,Shut (∀a' w',wpAnyLast P md ops Q S ds fuel l' a' w'→K a' w')→if Region.wanted oi (yielded ops a.tmps)=true then Oper.wp P oi a w K Q else K (a.put N undef) w) (hi:ops[i]? =some oi:=by exact rfl) (hN:oi.dst=N:=by exact rfl) (hc:readyB md ops l l' i=true:=by kernel_rfl) (hd:i∈ds:=by decide):wpAnyLast P md ops Q S ds (fuel+1) l a w:=last_ l' hi hN hc hd h
theorem zlh (i:Nat) (N:Option Tmp) (l':Array Bool) (hT:Aside0 (rtab md ops=T)) (h: ∀K:Act→World→Prop,Shut (∀a' w',wpAnyLast P md ops Q S ds fuel l' a' w'→K a' w')→if Region.wanted oi (yielded ops a.tmps)=true then Oper.wp P oi a w K Q else K (a.put N undef) w) (hi:ops[i]? =some oi:=by exact rfl) (hN:oi.dst=N:=by exact rfl) (hc:(readyT T.2 l.toList==[i]&&l.toList.set i true==l'.toList)=true:=by kernel_rfl) (hd:i∈ds:=by decide):wpAnyLast P md ops Q S ds (fuel+1) l a w:=last_ l' hi hN (one_of hT.out hc) hd h
theorem znm (N:Option Tmp) {x:Act} (h:wpAnyLast P md ops Q S ds fuel l a' w) (ha:Act.put x N v=a':=by (simp only[Act.put,zL,i64_w,i32_w];rfl)):wpAnyLast P md ops Q S ds fuel l (Act.put x N v) w:=norm_ ha h
theorem znq (h:wpAnyLast P md ops Q S ds fuel l a' w) (ha:a=a':=by (simp only[putAll,Act.put,zL];rfl)):wpAnyLast P md ops Q S ds fuel l a w:=norm_ ha h
theorem zsk {w1:World} {K:Act→World→Prop} (h:K a w1) (hw:Region.wanted oi (yielded ops a.tmps)=true:=by rfl) (hN:oi.dst=none:=by exact rfl) (hrun:(execOp a.eval oi).run P w=.ok .skip w1:=by (go_simp;rfl)):if Region.wanted oi (yielded ops a.tmps)=true then Oper.wp P oi a w K Q else K (a.put none undef) w:=skip_ hw hN hrun h
end
end Go.Proofs.YtkagobkedifhkaaDoor.Q
namespace Go.Proofs.YtkagobkedifhkaaDoor.Q
open Go.RowKit Go.Proofs.YtkagobkedifhkaaDoorW.PrintWords Go.Proofs.YtkagobkedifhkaaDoorW.PrintLast Go.Proofs.YtkagobkedifhkaaDoorW.PrintMore
attribute [local go_sem] max2_int min2_int max_two min_two max_three min_three max_four min_four
set_option linter.unusedVariables false
set_option linter.unusedSimpArgs false
theorem info3:(Tryd.prog.info? 3).map (fun i=>(i.zero,i.size,i.bytes))=some (some (.int .i64 0),1,8):=by kernel_rfl
theorem info5:(Tryd.prog.info? 5).map (fun i=>(i.zero,i.size,i.bytes))=some (some (.int .u8 0),1,1):=by kernel_rfl
structure S24 where
 f0:Int
 f1:Int
 f2:(List Int)
def k24:Kd S24:=Kd.iso (Kd.pair (Kd.int .i64) (Kd.pair (Kd.int .i64) (Kd.slice 5 (Kd.int .u8)))) (fun x:S24=>(x.f0,x.f1,x.f2))
theorem k24_open{w:World}{x:S24}{cs:List Value}(h:k24.K w x cs): ∃A2 c2,cs= [.int .i64 x.f0,.int .i64 x.f1,.slice A2 x.f2.length c2]∧x.f2.length≤c2∧(Kd.int .u8).C w A2 x.f2.length x.f2:=by
 obtain⟨_,_,rfl,rfl,⟨_,_,rfl,rfl,⟨A2,c2,rfl,l2,g2⟩⟩⟩:=h;exact⟨A2,c2,rfl,l2,g2⟩
theorem tab_below{g:Nat}{tab:List Nat}{w W:World}(h:TabAt g tab w)(hb:Below w.heap.size w W):TabAt g tab W:=fun j hj=>pw_cell_below hb (h j hj)
mutual
def recoupref06_Full.j0:Nat→Int→Bool→Option (Int×Int)
 |0,_,_=>none
 |k+1,x0,D=>if D=true then(some (0,2))else(recoupref06_Full.l0 k x0 0 0)
def recoupref06_Full.l0:Nat→Int→Int→Int→Option (Int×Int)
 |0,_,_,_=>none
 |k+1,x0,x4,x5=>if x5<x0 then(if 0≤(IntKind.u64.wrap (x5))then(recoupref06_Full.l0 k x0 (Go.bits .or .u64 x4 (shl .u64 1 (IntKind.u64.wrap (x5)))) (wrap64 (x5+1)))else(none))else(some (x4,0))
end
def recoupref06_Full.f(k:Nat)(a0:Int):Option (Int×Int):=if a0<0 then(recoupref06_Full.j0 k a0 true)else(recoupref06_Full.j0 k a0 (decide (a0>64)))
set_option maxHeartbeats 8000000 in
set_option maxRecDepth 100000 in
theorem recoupref06_Full.calls(k:Nat)(a0:Int)(r1:Int)(r2:Int)(w:World)(h:recoupref06_Full.f k a0=some (r1,r2)):
 Calls Tryd.prog 15 #[.int .i64 a0] w fun e w'=>e= .returned (.tuple #[.int .u64 r1,.int .i64 r2])∧Drawn0 w w':=by
 have H:(if a0<0 then(recoupref06_Full.j0 k a0 true)else(recoupref06_Full.j0 k a0 (decide (a0>64))))=some (r1,r2):=h;clear h;have X:=aK H;clear H
 go_enter Tryd.func15,Tryd.ntmps15
 go_upto_region 1 with(fail)
 go_cut [11] (fun ab wc=> ∃(kq:Nat) (J:Bool),ab= .bool J∧Aside0 (recoupref06_Full.j0 kq a0 J=some (r1,r2))∧Aside0 (kq≤k)∧Drawn0 w wc)
 case first=>
  have H:=X.out;clear X;by_cases c3:a0<0
  ·rw[if_pos c3]at H
   have c3b0:decide (a0<0)=true:=decide_eq_true c3;clear c3
   (first|rw[c3b0] |(simp only[i64_w,i32_w];rw[c3b0])|skip)
   have H':=aK H;clear H;go_wp2
   go_meet
   case rel=>exact⟨_,(true),rsE,H',⟨leE⟩,by repeat(first|exact Drawn0.refl _|apply Drawn0.step)⟩
  ·rw[if_neg c3]at H
   have c3b0:decide (a0<0)=false:=decide_eq_false c3;clear c3
   (first|rw[c3b0] |(simp only[i64_w,i32_w];rw[c3b0])|skip)
   have H':=aK H;clear H;go_wp2
   go_meet
   case rel=>exact⟨_,(decide (a0>64)),rsE,H',⟨leE⟩,by repeat(first|exact Drawn0.refl _|apply Drawn0.step)⟩
 case rest=>
  clear X
  (try clear c1);(try clear p2);(try clear c3);(try clear c3b0)
  obtain⟨kq,J,rfl,HA,Y,⟨ac,rfl⟩⟩:=hcut
  cases kq with
  |zero=>exact absurd HA.out (by simp[recoupref06_Full.j0])
  |succ aa=>
   have H:=HA.out;clear HA;simp only[recoupref06_Full.j0]at H;by_cases c4:J=true
   ·subst c4;rw[if_pos rfl]at H
    simp only[Option.some.injEq,Prod.mk.injEq]at H;obtain⟨rfl,rfl⟩:=H;go_wp2
    go_ret2
    exact⟨by first|rfl|(simp;done)|(simp[*];done),by repeat(first|exact Drawn0.refl _|apply Drawn0.step)⟩
   ·replace c4:=Bool.eq_false_iff.mpr c4;subst c4;rw[if_neg nofT]at H
    have H':=aK H;clear H;go_wp2
    go_loopg [4,5] aa (fun kq v4 v5 w'=> ∃(I:Int) (D:Int),v4= .int .u64 I∧v5= .int .i64 D∧Aside0 (recoupref06_Full.l0 kq a0 I D=some (r1,r2))∧Aside0 (kq≤aa)∧Drawn0 w w')
    case atStart=>exact⟨(0),(0),rsE,rsE,H',⟨Nat.le_refl _⟩,by repeat(first|exact Drawn0.refl _|apply Drawn0.step)⟩
    case round=>
     clear H'
     (try clear c1);(try clear p2 p2);(try clear c3);(try clear c3b0);(try clear c4)
     obtain⟨I,D,rfl,rfl,HA,Z,⟨m2,rfl⟩⟩:=hrel
     cases gk with
     |zero=>exact absurd HA.out (by simp[recoupref06_Full.l0])
     |succ k2=>
      have H:=HA.out;clear HA;simp only[recoupref06_Full.l0]at H;by_cases c5:D<a0
      ·rw[if_pos c5]at H
       have c5b0:decide (D<a0)=true:=decide_eq_true c5;clear c5;obtain⟨G,U⟩: ∃j_:Int,(IntKind.u64.wrap (D))=j_:=⟨_,rfl⟩
       replace H:(if 0≤(G)then(recoupref06_Full.l0 k2 a0 (Go.bits .or .u64 I (shl .u64 1 (G))) (wrap64 (D+1)))else(none))=some (r1,r2):=by first|(rw[U]at H;exact H)|(simp only[U]at H⊢;exact H)
       by_cases c7:0≤(G)
       ·rw[if_pos c7]at H
        have c7b0:=eq_true c7;have c7b1:decide (0≤(G))=true:=decide_eq_true c7;clear c7;obtain⟨O,L⟩: ∃j_:Int,(shl .u64 1 (G))=j_:=⟨_,rfl⟩
        replace H:(recoupref06_Full.l0 k2 a0 (Go.bits .or .u64 I (O)) (wrap64 (D+1)))=some (r1,r2):=by first|(rw[L]at H;exact H)|(simp only[L]at H⊢;exact H)
        have hji8_:(IntKind.u64.wrap (1*2^min (G).toNat 64))=O:=L;have hji8z:(G)≤64→(IntKind.u64.wrap (1*2^(G).toNat))=O:=shl_small L;have hji8u:(IntKind.u64.wrap (2^min (G).toNat 64))=O:=by have h_:=hji8_;rw[Int.one_mul]at h_;exact h_
        have hji8v:(G)≤64→(IntKind.u64.wrap (2^(G).toNat))=O:=fun hle_=>by have h_:=hji8z hle_;rw[Int.one_mul]at h_;exact h_
        have H':=aK H;clear H;go_wp2
        go_roundg k2
        case measure=>have:=Y.out;have:=Z.out;omega
        case rel=>exact⟨(Go.bits .or .u64 I (O)),(wrap64 (D+1)),(by first|rfl|(simp;done)|(simp only[←L]<;>(first|rfl|simp))|(simp[*];done)),rsE,H',⟨by have:=Y.out;have:=Z.out;omega⟩,by repeat(first|exact Drawn0.refl _|apply Drawn0.step)⟩
       ·rw[if_neg c7]at H
        exact absurd H zd
      ·rw[if_neg c5]at H
       have c5b0:decide (D<a0)=false:=decide_eq_false c5;clear c5;simp only[Option.some.injEq,Prod.mk.injEq]at H;obtain⟨rfl,rfl⟩:=H;go_wp2
       go_ret2
       exact⟨by first|rfl|(simp;done)|(simp[*];done),by repeat(first|exact Drawn0.refl _|apply Drawn0.step)⟩
def recoupref03_Right.f(D:Int)(G:Int)(I:List Int):Option (Bool):=if D≥0 then(if D≤64 then(if G≥0 then(if G≤64 then(some ((I.length:Int)==(wrap64 (D*G))))else(some false))else(some false))else(some false))else(some false)
set_option maxHeartbeats 8000000 in
set_option maxRecDepth 100000 in
theorem recoupref03_Right.calls(D:Int)(G:Int)(L:Option Addr)(O:Nat)(J:List Int)(r:Bool)(w:World)(aa:Kd.C (Kd.int .u8) w L J.length J)(Z:J.length≤O)(h:recoupref03_Right.f D G J=some r):
 Calls Tryd.prog 37 #[.agg #[.int .i64 D,.int .i64 G,.slice L J.length O]] w fun e w'=>e= .returned (.bool r)∧Below w.heap.size w w':=by
 have ba:=Tryd.underlying24;have a9:=aK aa;have a8:=aK Z;clear aa Z;have HB:=aK (Below.refl w.heap.size w);have H:(if D≥0 then(if D≤64 then(if G≥0 then(if G≤64 then(some ((J.length:Int)==(wrap64 (D*G))))else(some false))else(some false))else(some false))else(some false))=some r:=h;clear h;by_cases c2:D≥0
 ·rw[if_pos c2]at H
  have c2b0:decide (0≤D)=true:=decide_eq_true c2;clear c2;by_cases c3:D≤64
  ·rw[if_pos c3]at H
   have c3b0:decide (D≤64)=true:=decide_eq_true c3;clear c3;by_cases c4:G≥0
   ·rw[if_pos c4]at H
    have c4b0:decide (0≤G)=true:=decide_eq_true c4;clear c4;by_cases c5:G≤64
    ·rw[if_pos c5]at H
     have c5b0:decide (G≤64)=true:=decide_eq_true c5;clear c5;obtain rfl:=Option.some.inj H
     go_enter Tryd.func37,Tryd.ntmps37
     go_wp2_with (first|((with_reducible refine gD 1 rfl ?_);(try(refine gate_guard ze ?_;dsimp only));refine bE 1 #[.int .i64 D,.int .i64 G,.slice L J.length O] 24 ?_;intro Y hg w6 hbox hb;have I:=aK (hbox);have X:=hbS HB hg;have U:=hbS HB hg;replace HB:=hbB HB hb;clear hb hbox hg;obtain⟨aw,ax,ay,a2,a3,a4⟩:=cell3 I))
     go_ret
     exact⟨rfE,hbA HB.out⟩
    ·rw[if_neg c5]at H
     have c5b0:decide (G≤64)=false:=decide_eq_false c5;clear c5;obtain rfl:=Option.some.inj H
     go_enter Tryd.func37,Tryd.ntmps37
     go_wp2_with (first|((with_reducible refine gD 1 rfl ?_);(try(refine gate_guard ze ?_;dsimp only));refine bE 1 #[.int .i64 D,.int .i64 G,.slice L J.length O] 24 ?_;intro Y hg w8 hbox hb;have I:=aK (hbox);have X:=hbS HB hg;have U:=hbS HB hg;replace HB:=hbB HB hb;clear hb hbox hg;obtain⟨az,a0,a1,a5,a6,a7⟩:=cell3 I))
     go_ret
     exact⟨rfE,hbA HB.out⟩
   ·rw[if_neg c4]at H
    have c4b0:decide (0≤G)=false:=decide_eq_false c4;clear c4;obtain rfl:=Option.some.inj H
    go_enter Tryd.func37,Tryd.ntmps37
    go_wp2_with (first|((with_reducible refine gD 1 rfl ?_);(try(refine gate_guard ze ?_;dsimp only));refine bE 1 #[.int .i64 D,.int .i64 G,.slice L J.length O] 24 ?_;intro Y hg bb hbox hb;have I:=aK (hbox);have X:=hbS HB hg;have U:=hbS HB hg;replace HB:=hbB HB hb;clear hb hbox hg;obtain⟨ab,ac,ae,al,am,an⟩:=cell3 I))
    go_ret
    exact⟨rfE,hbA HB.out⟩
  ·rw[if_neg c3]at H
   have c3b0:decide (D≤64)=false:=decide_eq_false c3;clear c3;obtain rfl:=Option.some.inj H
   go_enter Tryd.func37,Tryd.ntmps37
   go_wp2_with (first|((with_reducible refine gD 1 rfl ?_);(try(refine gate_guard ze ?_;dsimp only));refine bE 1 #[.int .i64 D,.int .i64 G,.slice L J.length O] 24 ?_;intro Y hg bc hbox hb;have I:=aK (hbox);have X:=hbS HB hg;have U:=hbS HB hg;replace HB:=hbB HB hb;clear hb hbox hg;obtain⟨af,ag,ah,ao,ap,aq⟩:=cell3 I))
   go_ret
   exact⟨rfE,hbA HB.out⟩
 ·rw[if_neg c2]at H
  have c2b0:decide (0≤D)=false:=decide_eq_false c2;clear c2;obtain rfl:=Option.some.inj H
  go_enter Tryd.func37,Tryd.ntmps37
  go_wp2_with (first|((with_reducible refine gD 1 rfl ?_);(try(refine gate_guard ze ?_;dsimp only));refine bE 1 #[.int .i64 D,.int .i64 G,.slice L J.length O] 24 ?_;intro Y hg bd hbox hb;have I:=aK (hbox);have X:=hbS HB hg;have U:=hbS HB hg;replace HB:=hbB HB hb;clear hb hbox hg;obtain⟨ai,aj,ak,ar,au,av⟩:=cell3 I))
  go_ret
  exact⟨rfE,hbA HB.out⟩
def recoupref16_Generator.f(G:Int)(D:Int)(I:List Int):Option (Bool):=(recoupref03_Right.f G D I).bind fun J=>(if J=true then(if D≥1 then(some (decide (G≥D)))else(some false))else(some false))
set_option maxHeartbeats 8000000 in
set_option maxRecDepth 100000 in
theorem recoupref16_Generator.calls(J:Int)(G:Int)(L:Option Addr)(O:Nat)(I:List Int)(r:Bool)(w:World)(ac:Kd.C (Kd.int .u8) w L I.length I)(ab:I.length≤O)(h:recoupref16_Generator.f J G I=some r):
 Calls Tryd.prog 19 #[.agg #[.int .i64 J,.int .i64 G,.slice L I.length O]] w fun e w'=>e= .returned (.bool r)∧Below w.heap.size w w':=by
 have bb:=Tryd.underlying24;have X:=aK ac;have U:=aK ab;clear ac ab;have HB:=aK (Below.refl w.heap.size w);have H:((recoupref03_Right.f J G I).bind fun ae=>(if ae=true then(if G≥1 then(some (decide (J≥G)))else(some false))else(some false)))=some r:=h;clear h;obtain⟨ae,A2,H⟩:=bindO H
 (try dsimp only at H)
 by_cases c3:ae=true
 ·subst c3;rw[if_pos rfl]at H
  by_cases c4:G≥1
  ·rw[if_pos c4]at H
   have c4b0:decide (1≤G)=true:=decide_eq_true c4;clear c4;obtain rfl:=Option.some.inj H
   go_enter Tryd.func19,Tryd.ntmps19
   go_wp2_with (first|((with_reducible refine gD 1 rfl ?_);refine bE 1 #[.int .i64 J,.int .i64 G,.slice L I.length O] 24 ?_;intro aa hg w5 hbox hb;have D:=aK (hbox);have Z:=hbS HB hg;have Y:=hbS HB hg;replace HB:=hbB HB hb;clear hb hbox hg;obtain⟨az,a0,a1,a5,a6,a7⟩:=cell3 D)|((with_reducible refine gC 37 rfl ?_);refine cG (some 4) Tryd.func37 #[.agg #[.int .i64 J,.int .i64 G,.slice L I.length O]] ?_;(with_reducible refine(recoupref03_Right.calls J G _ _ I true _ ?side1 ?side2 A2.out).mono ?_);(case side1=>exact kcB X HB);(case side2=>exact U.out);rintro e w7 ⟨rfl,hb⟩;refine⟨_,rfl,?_⟩;replace D:=bkB D hb;replace HB:=hbB HB hb;(try clear hb);obtain⟨a2,a3,a4,a8,a9,ba⟩:=cell3 D))
   go_ret
   exact⟨rfE,hbA HB.out⟩
  ·rw[if_neg c4]at H
   have c4b0:decide (1≤G)=false:=decide_eq_false c4;clear c4;obtain rfl:=Option.some.inj H
   go_enter Tryd.func19,Tryd.ntmps19
   go_wp2_with (first|((with_reducible refine gD 1 rfl ?_);refine bE 1 #[.int .i64 J,.int .i64 G,.slice L I.length O] 24 ?_;intro aa hg w9 hbox hb;have D:=aK (hbox);have Z:=hbS HB hg;have Y:=hbS HB hg;replace HB:=hbB HB hb;clear hb hbox hg;obtain⟨af,ag,ah,ao,ap,aq⟩:=cell3 D)|((with_reducible refine gC 37 rfl ?_);refine cG (some 4) Tryd.func37 #[.agg #[.int .i64 J,.int .i64 G,.slice L I.length O]] ?_;(with_reducible refine(recoupref03_Right.calls J G _ _ I true _ ?side1 ?side2 A2.out).mono ?_);(case side1=>exact kcB X HB);(case side2=>exact U.out);rintro e bc ⟨rfl,hb⟩;refine⟨_,rfl,?_⟩;replace D:=bkB D hb;replace HB:=hbB HB hb;(try clear hb);obtain⟨ai,aj,ak,ar,au,av⟩:=cell3 D))
   go_ret
   exact⟨rfE,hbA HB.out⟩
 ·replace c3:=Bool.eq_false_iff.mpr c3;subst c3;rw[if_neg nofT]at H
  obtain rfl:=Option.some.inj H
  go_enter Tryd.func19,Tryd.ntmps19
  go_wp2_with (first|((with_reducible refine gD 1 rfl ?_);refine bE 1 #[.int .i64 J,.int .i64 G,.slice L I.length O] 24 ?_;intro aa hg bd hbox hb;have D:=aK (hbox);have Z:=hbS HB hg;have Y:=hbS HB hg;replace HB:=hbB HB hb;clear hb hbox hg;obtain⟨al,am,an,aw,ax,ay⟩:=cell3 D)|((with_reducible refine gC 37 rfl ?_);refine cG (some 4) Tryd.func37 #[.agg #[.int .i64 J,.int .i64 G,.slice L I.length O]] ?_;(with_reducible refine(recoupref03_Right.calls J G _ _ I false _ ?side1 ?side2 A2.out).mono ?_);(case side1=>exact kcB X HB);(case side2=>exact U.out);rintro e be ⟨rfl,hb⟩;refine⟨_,rfl,?_⟩;replace D:=bkB D hb;replace HB:=hbB HB hb;(try clear hb)))
  go_ret
  exact⟨rfE,hbA HB.out⟩
def recoupref18_left.f(k:Nat)(G:Int)(I:Int)(J:List Int)(a1:Int):Option (Int×Int):=(recoupref16_Generator.f G I J).bind fun L=>(if L=true then((recoupref06_Full.f k G).bind fun D=>(if(Go.bits .andNot .u64 a1 D.1)=0 then(some (Go.bits .andNot .u64 D.1 a1,0))else(some (0,2))))else(some (0,3)))
set_option maxHeartbeats 8000000 in
set_option maxRecDepth 100000 in
theorem recoupref18_left.calls(k:Nat)(G:Int)(J:Int)(L:Option Addr)(O:Nat)(I:List Int)(a1:Int)(r1:Int)(r2:Int)(w:World)(af:Kd.C (Kd.int .u8) w L I.length I)(ae:I.length≤O)(h:recoupref18_left.f k G J I a1=some (r1,r2)):
 Calls Tryd.prog 32 #[.agg #[.int .i64 G,.int .i64 J,.slice L I.length O],.int .u64 a1] w fun e w'=>e= .returned (.tuple #[.int .u64 r1,.int .i64 r2])∧Below w.heap.size w w':=by
 have bf:=Tryd.underlying24;have Y:=aK af;have X:=aK ae;clear af ae;have HB:=aK (Below.refl w.heap.size w);have H:((recoupref16_Generator.f G J I).bind fun ag=>(if ag=true then((recoupref06_Full.f k G).bind fun ab=>(if(Go.bits .andNot .u64 a1 ab.1)=0 then(some (Go.bits .andNot .u64 ab.1 a1,0))else(some (0,2))))else(some (0,3))))=some (r1,r2):=h;clear h;obtain⟨ag,A3,H⟩:=bindO H
 (try dsimp only at H)
 by_cases c4:ag=true
 ·subst c4;rw[if_pos rfl]at H
  obtain⟨⟨U,ah⟩,A5,H⟩:=bindO H
  (try dsimp only at H)
  by_cases c6:(Go.bits .andNot .u64 a1 U)=0
  ·rw[if_pos c6]at H
   have c6b0:((Go.bits .andNot .u64 a1 U)==0)=true:=beq_iff_eq.mpr c6;have c6b1:((Go.bits .andNot .u64 a1 U)!=0)=false:=bne_eq_false_iff_eq.mpr c6;clear c6;simp only[Option.some.injEq,Prod.mk.injEq]at H;obtain⟨rfl,rfl⟩:=H
   go_enter Tryd.func32,Tryd.ntmps32
   go_wp2_with (first|((with_reducible refine gD 2 rfl ?_);refine bE 2 #[.int .i64 G,.int .i64 J,.slice L I.length O] 24 ?_;intro ac hg w7 hbox hb;have D:=aK (hbox);have aa:=hbS HB hg;have Z:=hbS HB hg;replace HB:=hbB HB hb;clear hb hbox hg;obtain⟨a9,ba,bb,bc,bd,be⟩:=cell3 D)|((with_reducible refine gC 19 rfl ?_);refine cG (some 9) Tryd.func19 #[.agg #[.int .i64 G,.int .i64 J,.slice L I.length O]] ?_;(with_reducible refine(recoupref16_Generator.calls G J _ _ I true _ ?side1 ?side2 A3.out).mono ?_);(case side1=>exact kcB Y HB);(case side2=>exact X.out);rintro e w9 ⟨rfl,hb⟩;refine⟨_,rfl,?_⟩;replace D:=bkB D hb;replace HB:=hbB HB hb;(try clear hb);obtain⟨ai,aj,ak,aw,ax,ay⟩:=cell3 D)|((with_reducible refine gC 15 rfl ?_);refine cG (some 14) Tryd.func15 #[.int .i64 G] ?_;(with_reducible refine(recoupref06_Full.calls k G U ah _ A5.out).mono ?_);rintro e w' ⟨rfl,⟨nd,rfl⟩⟩;refine⟨_,rfl,?_⟩))
   go_ret2
   exact⟨rfE,hbA HB.out⟩
  ·rw[if_neg c6]at H
   have c6b0:((Go.bits .andNot .u64 a1 U)==0)=false:=beq_eq_false_iff_ne.mpr c6;have c6b1:((Go.bits .andNot .u64 a1 U)!=0)=true:=bne_iff_ne.mpr c6;simp only[Option.some.injEq,Prod.mk.injEq]at H;obtain⟨rfl,rfl⟩:=H
   go_enter Tryd.func32,Tryd.ntmps32
   go_wp2_with (first|((with_reducible refine gD 2 rfl ?_);refine bE 2 #[.int .i64 G,.int .i64 J,.slice L I.length O] 24 ?_;intro ac hg bg hbox hb;have D:=aK (hbox);have aa:=hbS HB hg;have Z:=hbS HB hg;replace HB:=hbB HB hb;clear hb hbox hg;obtain⟨al,am,an,az,a0,a2⟩:=cell3 D)|((with_reducible refine gC 19 rfl ?_);refine cG (some 9) Tryd.func19 #[.agg #[.int .i64 G,.int .i64 J,.slice L I.length O]] ?_;(with_reducible refine(recoupref16_Generator.calls G J _ _ I true _ ?side1 ?side2 A3.out).mono ?_);(case side1=>exact kcB Y HB);(case side2=>exact X.out);rintro e bh ⟨rfl,hb⟩;refine⟨_,rfl,?_⟩;replace D:=bkB D hb;replace HB:=hbB HB hb;(try clear hb);obtain⟨ao,ap,aq,a3,a4,a5⟩:=cell3 D)|((with_reducible refine gC 15 rfl ?_);refine cG (some 14) Tryd.func15 #[.int .i64 G] ?_;(with_reducible refine(recoupref06_Full.calls k G U ah _ A5.out).mono ?_);rintro e w' ⟨rfl,⟨nd,rfl⟩⟩;refine⟨_,rfl,?_⟩))
   go_ret2
   exact⟨rfE,hbA HB.out⟩
 ·replace c4:=Bool.eq_false_iff.mpr c4;subst c4;rw[if_neg nofT]at H
  simp only[Option.some.injEq,Prod.mk.injEq]at H;obtain⟨rfl,rfl⟩:=H
  go_enter Tryd.func32,Tryd.ntmps32
  go_wp2_with (first|((with_reducible refine gD 2 rfl ?_);refine bE 2 #[.int .i64 G,.int .i64 J,.slice L I.length O] 24 ?_;intro ac hg bi hbox hb;have D:=aK (hbox);have aa:=hbS HB hg;have Z:=hbS HB hg;replace HB:=hbB HB hb;clear hb hbox hg;obtain⟨ar,au,av,a6,a7,a8⟩:=cell3 D)|((with_reducible refine gC 19 rfl ?_);refine cG (some 9) Tryd.func19 #[.agg #[.int .i64 G,.int .i64 J,.slice L I.length O]] ?_;(with_reducible refine(recoupref16_Generator.calls G J _ _ I false _ ?side1 ?side2 A3.out).mono ?_);(case side1=>exact kcB Y HB);(case side2=>exact X.out);rintro e bj ⟨rfl,hb⟩;refine⟨_,rfl,?_⟩;replace D:=bkB D hb;replace HB:=hbB HB hb;(try clear hb)))
  go_ret2
  exact⟨rfE,hbA HB.out⟩
end Go.Proofs.YtkagobkedifhkaaDoor.Q
namespace Go.Proofs.YtkagobkedifhkaaDoor.Q
open Go.RowKit Go.Proofs.YtkagobkedifhkaaDoorW.PrintWords Go.Proofs.YtkagobkedifhkaaDoorW.PrintLast Go.Proofs.YtkagobkedifhkaaDoorW.PrintMore
attribute [local go_sem] max2_int min2_int max_two min_two max_three min_three max_four min_four
set_option linter.unusedVariables false
set_option linter.unusedSimpArgs false
def recoupref07_bad.f(k:Nat)(D:Int)(I:Int)(J:List Int)(a1:Int):Option (Int):=(recoupref03_Right.f D I J).bind fun L=>(if L=true then((recoupref06_Full.f k D).bind fun G=>(if(Go.bits .andNot .u64 a1 G.1)=0 then(some 0)else(some 2)))else(some 3))
set_option maxHeartbeats 8000000 in
set_option maxRecDepth 100000 in
theorem recoupref07_bad.calls(k:Nat)(G:Int)(J:Int)(L:Option Addr)(O:Nat)(I:List Int)(a1:Int)(r:Int)(w:World)(ae:Kd.C (Kd.int .u8) w L I.length I)(ac:I.length≤O)(h:recoupref07_bad.f k G J I a1=some r):
 Calls Tryd.prog 57 #[.agg #[.int .i64 G,.int .i64 J,.slice L I.length O],.int .u64 a1] w fun e w'=>e= .returned (.int .i64 r)∧Below w.heap.size w w':=by
 have bf:=Tryd.underlying24;have Y:=aK ae;have X:=aK ac;clear ae ac;have HB:=aK (Below.refl w.heap.size w);have H:((recoupref03_Right.f G J I).bind fun af=>(if af=true then((recoupref06_Full.f k G).bind fun ah=>(if(Go.bits .andNot .u64 a1 ah.1)=0 then(some 0)else(some 2)))else(some 3)))=some r:=h;clear h;obtain⟨af,A3,H⟩:=bindO H
 (try dsimp only at H)
 by_cases c4:af=true
 ·subst c4;rw[if_pos rfl]at H
  obtain⟨⟨U,ag⟩,A5,H⟩:=bindO H
  (try dsimp only at H)
  by_cases c6:(Go.bits .andNot .u64 a1 U)=0
  ·rw[if_pos c6]at H
   have c6b0:((Go.bits .andNot .u64 a1 U)==0)=true:=beq_iff_eq.mpr c6;have c6b1:((Go.bits .andNot .u64 a1 U)!=0)=false:=bne_eq_false_iff_eq.mpr c6;clear c6;obtain rfl:=Option.some.inj H
   go_enter Tryd.func57,Tryd.ntmps57
   go_wp2_with (first|((with_reducible refine gD 2 rfl ?_);refine bE 2 #[.int .i64 G,.int .i64 J,.slice L I.length O] 24 ?_;intro ab hg w7 hbox hb;have D:=aK (hbox);have aa:=hbS HB hg;have Z:=hbS HB hg;replace HB:=hbB HB hb;clear hb hbox hg;obtain⟨a9,ba,bb,bc,bd,be⟩:=cell3 D)|((with_reducible refine gC 37 rfl ?_);refine cG (some 8) Tryd.func37 #[.agg #[.int .i64 G,.int .i64 J,.slice L I.length O]] ?_;(with_reducible refine(recoupref03_Right.calls G J _ _ I true _ ?side1 ?side2 A3.out).mono ?_);(case side1=>exact kcB Y HB);(case side2=>exact X.out);rintro e w9 ⟨rfl,hb⟩;refine⟨_,rfl,?_⟩;replace D:=bkB D hb;replace HB:=hbB HB hb;(try clear hb);obtain⟨ai,aj,ak,aw,ax,ay⟩:=cell3 D)|((with_reducible refine gC 15 rfl ?_);refine cG (some 13) Tryd.func15 #[.int .i64 G] ?_;(with_reducible refine(recoupref06_Full.calls k G U ag _ A5.out).mono ?_);rintro e w' ⟨rfl,⟨nd,rfl⟩⟩;refine⟨_,rfl,?_⟩))
   go_ret
   exact⟨rfE,hbA HB.out⟩
  ·rw[if_neg c6]at H
   have c6b0:((Go.bits .andNot .u64 a1 U)==0)=false:=beq_eq_false_iff_ne.mpr c6;have c6b1:((Go.bits .andNot .u64 a1 U)!=0)=true:=bne_iff_ne.mpr c6;obtain rfl:=Option.some.inj H
   go_enter Tryd.func57,Tryd.ntmps57
   go_wp2_with (first|((with_reducible refine gD 2 rfl ?_);refine bE 2 #[.int .i64 G,.int .i64 J,.slice L I.length O] 24 ?_;intro ab hg bg hbox hb;have D:=aK (hbox);have aa:=hbS HB hg;have Z:=hbS HB hg;replace HB:=hbB HB hb;clear hb hbox hg;obtain⟨al,am,an,az,a0,a2⟩:=cell3 D)|((with_reducible refine gC 37 rfl ?_);refine cG (some 8) Tryd.func37 #[.agg #[.int .i64 G,.int .i64 J,.slice L I.length O]] ?_;(with_reducible refine(recoupref03_Right.calls G J _ _ I true _ ?side1 ?side2 A3.out).mono ?_);(case side1=>exact kcB Y HB);(case side2=>exact X.out);rintro e bh ⟨rfl,hb⟩;refine⟨_,rfl,?_⟩;replace D:=bkB D hb;replace HB:=hbB HB hb;(try clear hb);obtain⟨ao,ap,aq,a3,a4,a5⟩:=cell3 D)|((with_reducible refine gC 15 rfl ?_);refine cG (some 13) Tryd.func15 #[.int .i64 G] ?_;(with_reducible refine(recoupref06_Full.calls k G U ag _ A5.out).mono ?_);rintro e w' ⟨rfl,⟨nd,rfl⟩⟩;refine⟨_,rfl,?_⟩))
   go_ret
   exact⟨rfE,hbA HB.out⟩
 ·replace c4:=Bool.eq_false_iff.mpr c4;subst c4;rw[if_neg nofT]at H
  obtain rfl:=Option.some.inj H
  go_enter Tryd.func57,Tryd.ntmps57
  go_wp2_with (first|((with_reducible refine gD 2 rfl ?_);refine bE 2 #[.int .i64 G,.int .i64 J,.slice L I.length O] 24 ?_;intro ab hg bi hbox hb;have D:=aK (hbox);have aa:=hbS HB hg;have Z:=hbS HB hg;replace HB:=hbB HB hb;clear hb hbox hg;obtain⟨ar,au,av,a6,a7,a8⟩:=cell3 D)|((with_reducible refine gC 37 rfl ?_);refine cG (some 8) Tryd.func37 #[.agg #[.int .i64 G,.int .i64 J,.slice L I.length O]] ?_;(with_reducible refine(recoupref03_Right.calls G J _ _ I false _ ?side1 ?side2 A3.out).mono ?_);(case side1=>exact kcB Y HB);(case side2=>exact X.out);rintro e bj ⟨rfl,hb⟩;refine⟨_,rfl,?_⟩;replace D:=bkB D hb;replace HB:=hbB HB hb;(try clear hb)))
  go_ret
  exact⟨rfE,hbA HB.out⟩
def recoupref03_At.f(I:Int)(D:Int)(G:List Int)(a1:Int)(a2:Int):Option (Int):=if 0≤(wrap64 ((wrap64 (a1*D))+a2))then(if(wrap64 ((wrap64 (a1*D))+a2))<(G.length:Int)then(some (rd G (wrap64 ((wrap64 (a1*D))+a2))))else(none))else(none)
set_option maxHeartbeats 8000000 in
set_option maxRecDepth 100000 in
theorem recoupref03_At.calls(U:Int)(G:Int)(O:Option Addr)(X:Nat)(D:List Int)(a1:Int)(a2:Int)(r:Int)(w:World)(Z:Kd.C (Kd.int .u8) w O D.length D)(Y:D.length≤X)(h:recoupref03_At.f U G D a1 a2=some r):
 Calls Tryd.prog 40 #[.agg #[.int .i64 U,.int .i64 G,.slice O D.length X],.int .i64 a1,.int .i64 a2] w fun e w'=>e= .returned (.int .u8 r)∧Below w.heap.size w w':=by
 have ar:=Tryd.underlying24;have ae:=aK Z;have ao:=aK Y;clear Z Y;have HB:=aK (Below.refl w.heap.size w);have H:(if 0≤(wrap64 ((wrap64 (a1*G))+a2))then(if(wrap64 ((wrap64 (a1*G))+a2))<(D.length:Int)then(some (rd D (wrap64 ((wrap64 (a1*G))+a2))))else(none))else(none))=some r:=h;clear h;obtain⟨J,L⟩: ∃j_:Int,(wrap64 ((wrap64 (a1*G))+a2))=j_:=⟨_,rfl⟩
 replace H:(if 0≤(J)then(if(J)<(D.length:Int)then(some (rd D (J)))else(none))else(none))=some r:=by first|(rw[L]at H;exact H)|(simp only[L]at H⊢;exact H)
 have hji4w:(IntKind.i64.wrap ((wrap64 (a1*G))+a2))=J:=(i64_w _).trans L;by_cases c5:0≤(J)
 ·rw[if_pos c5]at H
  have c5b0:decide (0≤(J))=true:=decide_eq_true c5;clear c5;by_cases c6:(J)<(D.length:Int)
  ·rw[if_pos c6]at H
   have c6b0:decide ((J)<(D.length:Int))=true:=decide_eq_true c6;clear c6;obtain rfl:=Option.some.inj H
   go_enter Tryd.func40,Tryd.ntmps40
   go_wp2_with (first|((with_reducible refine gD 3 rfl ?_);refine bE 3 #[.int .i64 U,.int .i64 G,.slice O D.length X] 24 ?_;intro aq hg w7 hbox hb;have ac:=aK (hbox);have an:=hbS HB hg;have am:=hbS HB hg;replace HB:=hbB HB hb;clear hb hbox hg;obtain⟨ag,ah,ai,aj,ak,al⟩:=cell3 ac;have aa:0≤((J):Int):=of_decide_eq_true asE;have ab:(J)<(D.length:Int):=of_decide_eq_true asE;obtain⟨ap,af,I⟩:=Kd.at_int ae.out (J) aa ab;cases af;replace I:=(HB.out.cell (World.block_lt_of_cell? w _ I)).trans I;replace aa:=eq_true aa;replace ab:=eq_true ab))
   go_ret
   exact⟨by first|rfl|(simp[errW_none,errW_some]<;>rfl)|(simp only[←L];first|rfl|(simp[errW_none,errW_some]<;>rfl))|(simp[*,errW_none,errW_some]<;>rfl),hbA HB.out⟩
  ·rw[if_neg c6]at H
   exact absurd H zd
 ·rw[if_neg c5]at H
  exact absurd H zd
mutual
def recoupref03_Row.j0:Nat→Int→Bool→Int→Int→List Int→Option (List Int×Int)
 |0,_,_,_,_,_=>none
 |k+1,x1,J,D,G,I=>if J=true then(some (([]:List Int),2))else(recoupref03_Row.l0 k x1 ([]:List Int) 0 D G I)
def recoupref03_Row.l0:Nat→Int→List Int→Int→Int→Int→List Int→Option (List Int×Int)
 |0,_,_,_,_,_,_=>none
 |k+1,x1,x6,x7,G,D,I=>if x7<D then((recoupref03_At.f G D I x1 x7).bind fun J=>(if x6.length<140737488355328 then(recoupref03_Row.l0 k x1 (x6++ [J]) (wrap64 (x7+1)) G D I)else(none)))else(some (x6,0))
end
def recoupref03_Row.f(k:Nat)(D:Int)(G:Int)(I:List Int)(a1:Int):Option (List Int×Int):=(recoupref03_Right.f D G I).bind fun J=>(if J=true then(if a1<0 then(recoupref03_Row.j0 k a1 true D G I)else(recoupref03_Row.j0 k a1 (decide (a1≥D)) D G I))else(some (([]:List Int),3)))
set_option maxHeartbeats 8000000 in
set_option maxRecDepth 100000 in
theorem recoupref03_Row.calls(k:Nat)(J:Int)(G:Int)(L:Option Addr)(O:Nat)(I:List Int)(a1:Int)(r1:List Int)(r2:Int)(w:World)(aw:Kd.C (Kd.int .u8) w L I.length I)(av:I.length≤O)(h:recoupref03_Row.f k J G I a1=some (r1,r2)):
 Calls Tryd.prog 38 #[.agg #[.int .i64 J,.int .i64 G,.slice L I.length O],.int .i64 a1] w fun e w'=> ∃v0_:Value,e= .returned (.tuple #[v0_,.int .i64 r2])∧Kd.R (Kd.int .u8) 5 w' w.heap.size (fun _=>True) v0_ r1∧Below w.heap.size w w':=by
 have bu:=Tryd.underlying24;have aj:=aK aw;have ai:=aK av;clear aw av;have HB:=aK (Below.refl w.heap.size w);have H:((recoupref03_Right.f J G I).bind fun ax=>(if ax=true then(if a1<0 then(recoupref03_Row.j0 k a1 true J G I)else(recoupref03_Row.j0 k a1 (decide (a1≥J)) J G I))else(some (([]:List Int),3))))=some (r1,r2):=h;clear h;obtain⟨ax,A3,H⟩:=bindO H
 (try dsimp only at H)
 by_cases c4:ax=true
 ·subst c4;rw[if_pos rfl]at H
  have a3:=aK H;clear H
  go_enter Tryd.func38,Tryd.ntmps38
  go_upto_region 3 with(first|((with_reducible refine gD 2 rfl ?_);refine bE 2 #[.int .i64 J,.int .i64 G,.slice L I.length O] 24 ?_;intro Z hg w6 hbox hb;have D:=aK (hbox);have a2:=hbS HB hg;have a0:=hbS HB hg;replace HB:=hbB HB hb;clear hb hbox hg;obtain⟨ak,al,am,an,ao,ap⟩:=cell3 D)|((with_reducible refine gC 37 rfl ?_);refine cG (some 9) Tryd.func37 #[.agg #[.int .i64 J,.int .i64 G,.slice L I.length O]] ?_;(with_reducible refine(recoupref03_Right.calls J G _ _ I true _ ?side1 ?side2 A3.out).mono ?_);(case side1=>exact kcB aj HB);(case side2=>exact ai.out);rintro e w8 ⟨rfl,hb⟩;refine⟨_,rfl,?_⟩;replace D:=bkB D hb;replace HB:=hbB HB hb;(try clear hb)))
  (try simp only[Act.put,zL])
  go_cut [18] (fun bt wc=> ∃(kq:Nat) (aa:Bool),bt= .bool aa∧Aside0 (recoupref03_Row.j0 kq a1 aa J G I=some (r1,r2))∧Aside0 (kq≤k)∧Aside0 (wc.heap[Z]? =some (.cells #[.int .i64 J,.int .i64 G,(.slice L I.length O)] 24 (0,0)))∧Aside0 (Below w.heap.size w wc))
  case first=>
   have H:=a3.out;clear a3;by_cases c9:a1<0
   ·rw[if_pos c9]at H
    have c9b0:decide (a1<0)=true:=decide_eq_true c9;clear c9
    (first|rw[c9b0] |(simp only[i64_w,i32_w];rw[c9b0])|skip)
    have H':=aK H;clear H;go_wp2
    go_meet
    case rel=>exact⟨_,(true),rsE,H',⟨leE⟩,⟨bkA D.out⟩,⟨hbA HB.out⟩⟩
   ·rw[if_neg c9]at H
    have c9b0:decide (a1<0)=false:=decide_eq_false c9;clear c9
    (first|rw[c9b0] |(simp only[i64_w,i32_w];rw[c9b0])|skip)
    have H':=aK H;clear H;obtain⟨ab,ac,ae,af,ag,ah⟩:=cell3 D;go_wp2
    go_meet
    case rel=>exact⟨_,(decide (a1≥J)),rsE,H',⟨leE⟩,⟨bkA D.out⟩,⟨hbA HB.out⟩⟩
  case rest=>
   clear a3
   (try clear p2);(try clear c3);(try clear c4);(try clear c9);(try clear c9b0);(try clear ab ac ae af ag ah);(try clear ak al am an ao ap)
   obtain⟨kq,aa,rfl,HA,a7,D,HB⟩:=hcut
   cases kq with
   |zero=>exact absurd HA.out (by simp[recoupref03_Row.j0])
   |succ br=>
    have H:=HA.out;clear HA;simp only[recoupref03_Row.j0]at H;by_cases au:aa=true
    ·subst au;rw[if_pos rfl]at H
     simp only[Option.some.injEq,Prod.mk.injEq]at H;obtain⟨rfl,rfl⟩:=H;go_wp2
     go_ret2
     exact⟨_,rfE,nilE,hbA HB.out⟩
    ·replace au:=Bool.eq_false_iff.mpr au;subst au;rw[if_neg nofT]at H
     have H':=aK H;clear H;go_wp2
     go_loopg [6,7] br (fun kq v6 v7 w'=> ∃(Y:List Int) (U:Int),v7= .int .i64 U∧Aside0 (recoupref03_Row.l0 kq a1 Y U J G I=some (r1,r2))∧Aside0 (kq≤br)∧Aside0 (Kd.R (Kd.int .u8) 5 w' w.heap.size (fun _=>True) v6 Y)∧Aside0 (w'.heap[Z]? =some (.cells #[.int .i64 J,.int .i64 G,(.slice L I.length O)] 24 (0,0)))∧Aside0 (Below w.heap.size w w'))
     case atStart=>exact⟨(([]:List Int)),(0),rsE,H',⟨Nat.le_refl _⟩,⟨nilE⟩,⟨bkA D.out⟩,⟨hbA HB.out⟩⟩
     case round=>
      clear H'
      (try clear c1);(try clear p2 p2);(try clear c3);(try clear c4);(try clear c9);(try clear c9b0);(try clear au);(try clear ab ac ae af ag ah);(try clear ak al am an ao ap)
      obtain⟨Y,U,rfl,HA,a8,HO_6,D,HB⟩:=hrel
      cases gk with
      |zero=>exact absurd HA.out (by simp[recoupref03_Row.l0])
      |succ k2=>
       have H:=HA.out;clear HA;simp only[recoupref03_Row.l0]at H;by_cases ar:U<G
       ·rw[if_pos ar]at H
        have c12b0:decide (U<G)=true:=decide_eq_true ar;clear ar;obtain⟨aq,bs,H⟩:=bindO H
        (try dsimp only at H)
        by_cases ay:Y.length<140737488355328
        ·rw[if_pos ay]at H
         have a5:=aK ay;clear ay;obtain⟨az,X⟩: ∃y_:List Int,y_=(Y++ [aq]):=⟨_,rfl⟩
         replace H:(recoupref03_Row.l0 k2 a1 az (wrap64 (U+1)) J G I)=some (r1,r2):=by first|(rw[X];with_reducible exact H)|(have H2_:=(Option.bind_some _ _).symm.trans H;rw[X];with_reducible exact H2_)|(have H2_:=(Option.bind_some _ _).symm.trans H;with_reducible exact H2_)|with_reducible exact H|(rw[X];exact H)|exact H
         have a6:=aK X;clear X;have H':=aK H;clear H;obtain⟨a9,ba,bb,bi,bj,bk⟩:=cell3 D
         go_wp2_with (first|((with_reducible refine gC 40 rfl ?_);refine cG (some 29) Tryd.func40 #[.agg #[.int .i64 J,.int .i64 G,.slice L I.length O],.int .i64 a1,.int .i64 U] ?_;(with_reducible refine(recoupref03_At.calls J G _ _ I a1 U aq _ ?side1 ?side2 bs.out).mono ?_);(case side1=>exact kcB aj HB);(case side2=>exact ai.out);rintro e bw ⟨rfl,hb⟩;refine⟨_,rfl,?_⟩;replace HO_6:=kdB HO_6 hb;replace D:=bkB D hb;replace HB:=hbB HB hb;(try clear hb))|((with_reducible refine gate_builtin (b:= .append) (xs:= #[.tmp 25,.tmp 30]) rfl ?_);at_builtin;refine Kd.R_append (Kd.int .u8) (w0:=w) w.heap.size rfl (.tmp 25) (.tmp 30) 22 5 (.int .u8 0) 1 rfl Tryd.underlying22 info5 rfl zc za u6 Y aq [.int .u8 aq] (fun _=>True) (fun _=>False) rfl rfl ?aP (fun _ hk=>hk.elim) ?aF ?aO ?aB ?aS ?aL ?_;(case aP=>exact rfl);(case aB=>exact(hbA HB.out));(case aF=>exact(fun _ _=>trivial));(case aO=>exact(kdA HO_6.out));(case aS=>exact(below_size (hbA HB.out)));(case aL=>have:=a5.out;omega);intro bv bx ho hb hg hat;rw[←a6.out]at ho;have n0_:=aK (blk_grown (g:=Z) (o:= .cells #[.int .i64 J,.int .i64 G,.slice L I.length O] 24 (0,0)) (bkA D.out) hg (Kd.R_ne HO_6.out D.out zc));have n1_:=aK (hb);have n2_:=aK (ho);clear D;clear HB;clear HO_6;have D:=n0_;have HB:=n1_;have a4:=n2_;clear n0_ n1_ n2_;clear ho hb hg hat))
         go_roundg k2
         case measure=>have:=a7.out;have:=a8.out;omega
         case rel=>exact⟨(az),(wrap64 (U+1)),rsE,H',⟨by have:=a7.out;have:=a8.out;omega⟩,⟨kdA a4.out⟩,⟨bkA D.out⟩,⟨hbA HB.out⟩⟩
        ·rw[if_neg ay]at H
         exact absurd H zd
       ·rw[if_neg ar]at H
        have c12b0:decide (U<G)=false:=decide_eq_false ar;clear ar;simp only[Option.some.injEq,Prod.mk.injEq]at H;obtain⟨rfl,rfl⟩:=H;obtain⟨bc,bd,be,bl,bm,bn⟩:=cell3 D;go_wp2
        go_ret2
        exact⟨_,rfE,by(with_reducible repeat(first|apply Kd.R_alloc|apply Kd.R_drewN|apply Kd.R_drew));exact HO_6.out,hbA HB.out⟩
 ·replace c4:=Bool.eq_false_iff.mpr c4;subst c4;rw[if_neg nofT]at H
  simp only[Option.some.injEq,Prod.mk.injEq]at H;obtain⟨rfl,rfl⟩:=H
  go_enter Tryd.func38,Tryd.ntmps38
  go_wp2_with (first|((with_reducible refine gD 2 rfl ?_);refine bE 2 #[.int .i64 J,.int .i64 G,.slice L I.length O] 24 ?_;intro Z hg bz hbox hb;have D:=aK (hbox);have a2:=hbS HB hg;have a0:=hbS HB hg;replace HB:=hbB HB hb;clear hb hbox hg;obtain⟨bf,bg,bh,bo,bp,bq⟩:=cell3 D)|((with_reducible refine gC 37 rfl ?_);refine cG (some 9) Tryd.func37 #[.agg #[.int .i64 J,.int .i64 G,.slice L I.length O]] ?_;(with_reducible refine(recoupref03_Right.calls J G _ _ I false _ ?side1 ?side2 A3.out).mono ?_);(case side1=>exact kcB aj HB);(case side2=>exact ai.out);rintro e b0 ⟨rfl,hb⟩;refine⟨_,rfl,?_⟩;replace D:=bkB D hb;replace HB:=hbB HB hb;(try clear hb)))
  go_ret2
  exact⟨_,rfE,nilE,hbA HB.out⟩
end Go.Proofs.YtkagobkedifhkaaDoor.Q
namespace Go.Proofs.YtkagobkedifhkaaDoor.Q
open Go.RowKit Go.Proofs.YtkagobkedifhkaaDoorW.PrintWords Go.Proofs.YtkagobkedifhkaaDoorW.PrintLast Go.Proofs.YtkagobkedifhkaaDoorW.PrintMore
attribute [local go_sem] max2_int min2_int max_two min_two max_three min_three max_four min_four
set_option linter.unusedVariables false
set_option linter.unusedSimpArgs false
mutual
def recoupref03_Pick.l0:Nat→List Int→Int→Int→Int→List Int→Option (Int×Int×List Int×Int)
 |0,_,_,_,_,_=>none
 |k+1,x1,x6,D,G,I=>if x6<(x1.length:Int)then(if 0≤x6 then(if(rd x1 x6)<0 then(some (0,0,([]:List Int),2))else(if(rd x1 x6)≥D then(some (0,0,([]:List Int),2))else(recoupref03_Pick.l0 k x1 (wrap64 (x6+1)) D G I)))else(none))else(if(x1.length:Int)>64 then(some (0,0,([]:List Int),4))else(recoupref03_Pick.l1 k x1 0 D G I (x1.length:Int) G ([]:List Int)))
def recoupref03_Pick.l1:Nat→List Int→Int→Int→Int→List Int→Int→Int→List Int→Option (Int×Int×List Int×Int)
 |0,_,_,_,_,_,_,_,_=>none
 |k+1,x1,x8,G,I,J,L,O,D=>if x8<(x1.length:Int)then(if 0≤x8 then((recoupref03_Row.f k G I J (rd x1 x8)).bind fun U=>(if D.length+U.1.length<140737488355328 then(recoupref03_Pick.l1 k x1 (wrap64 (x8+1)) G I J L O (D++U.1))else(none)))else(none))else(some (L,O,D,0))
end
def recoupref03_Pick.f(k:Nat)(D:Int)(G:Int)(I:List Int)(l1:List Int):Option (Int×Int×List Int×Int):=(recoupref03_Right.f D G I).bind fun J=>(if J=true then(recoupref03_Pick.l0 k l1 0 D G I)else(some (0,0,([]:List Int),3)))
def recoupref03_Pick.T6:Bool×List (List Nat×List Nat):=(true,[([],[]),([],[]),([0,1],[0,1]),([2],[2]),([3],[3]),([4],[4]),([5],[5]),([5],[5]),([6,7,5],[5,6,7]),([8,5],[5,8]),([5],[5]),([10,5],[5,10]),([9,11,5],[5,9,11]),([5,12],[5,12])])
def recoupref03_Pick.B6:List Nat:= [0,0,3,7,15,31,63,63,255,511,63,1087,4095,8191]
theorem recoupref03_Pick.tab6:rtab .any (opsOf Tryd.f16 6)=recoupref03_Pick.T6:=by kernel_rfl
theorem recoupref03_Pick.bits6:waitsOk recoupref03_Pick.T6.2 recoupref03_Pick.B6=true:=by kernel_rfl
def recoupref03_Pick.T14:Bool×List (List Nat×List Nat):=(true,[([],[]),([],[]),([],[]),([1,2],[1,2]),([3],[3]),([0,4],[0,4]),([5],[5]),([6],[6]),([6],[6]),([7,5,0,1,2,3,4,5,6,7],[7]),([8,9,0,1,2,3,4,5,6,7,8,9],[8])])
def recoupref03_Pick.B14:List Nat:= [0,0,0,6,14,31,63,127,127,255,1023]
theorem recoupref03_Pick.tab14:rtab .any (opsOf Tryd.f16 14)=recoupref03_Pick.T14:=by kernel_rfl
theorem recoupref03_Pick.bits14:waitsOk recoupref03_Pick.T14.2 recoupref03_Pick.B14=true:=by kernel_rfl
set_option maxHeartbeats 8000000 in
set_option maxRecDepth 100000 in
theorem recoupref03_Pick.calls(k:Nat)(Y:Int)(O:Int)(al:Option Addr)(am:Nat)(Z:List Int)(A1:Option Addr)(c1:Nat)(l1:List Int)(r1:Int)(r2:Int)(r3:List Int)(r4:Int)(w:World)(ck:Kd.C (Kd.int .u8) w al Z.length Z)(bn:Z.length≤am)(ek:Kd.C (Kd.int .i64) w A1 l1.length l1)(dh:l1.length≤c1)(h:recoupref03_Pick.f k Y O Z l1=some (r1,r2,r3,r4)):
 Calls Tryd.prog 16 #[.agg #[.int .i64 Y,.int .i64 O,.slice al Z.length am],.slice A1 l1.length c1] w fun e w'=> ∃v2_:Value,e= .returned (.tuple #[.agg #[.int .i64 r1,.int .i64 r2,v2_],.int .i64 r4])∧Kd.R (Kd.int .u8) 5 w' w.heap.size (fun _=>True) v2_ r3∧Below w.heap.size w w':=by
 have fg:=Tryd.underlying24;have a4:=aK ck;have a3:=aK bn;clear ck bn;have bi:=aK ek;have fk:=aK dh;clear ek dh;have HB:=aK (Below.refl w.heap.size w);have H:((recoupref03_Right.f Y O Z).bind fun cn=>(if cn=true then(recoupref03_Pick.l0 k l1 0 Y O Z)else(some (0,0,([]:List Int),3))))=some (r1,r2,r3,r4):=h;clear h;obtain⟨cn,A3,H⟩:=bindO H
 (try dsimp only at H)
 by_cases c4:cn=true
 ·subst c4;rw[if_pos rfl]at H
  have H':=aK H;clear H
  go_enter Tryd.func16,Tryd.ntmps16
  go_wp2_with (first|((with_reducible refine gD 2 rfl ?_);refine bE 2 #[.int .i64 Y,.int .i64 O,.slice al Z.length am] 24 ?_;intro ah hg w5 hbox hb;have D:=aK (hbox);have cy:=hbS HB hg;have cw:=hbS HB hg;replace HB:=hbB HB hb;clear hb hbox hg)|((with_reducible refine gD 4 rfl ?_);refine bE 4 #[.int .i64 0,.int .i64 0,.slice none 0 0] 24 ?_;intro ak hg w6 hbox hb;have G:=aK (hbox);have cz:=hbS HB hg;have cx:=hbS HB hg;replace HB:=hbB HB hb;have ab:=neL D hg;have ac:=neG D hg;replace D:=bkB D hb;clear hb hbox hg;have fe:=ab.out;have ff:=ac.out;obtain⟨bb,bc,bd,be,bf,bg⟩:=cell3 D)|((with_reducible refine gC 37 rfl ?_);refine cG (some 12) Tryd.func37 #[.agg #[.int .i64 Y,.int .i64 O,.slice al Z.length am]] ?_;(with_reducible refine(recoupref03_Right.calls Y O _ _ Z true _ ?side1 ?side2 A3.out).mono ?_);(case side1=>exact kcB a4 HB);(case side2=>exact a3.out);rintro e w9 ⟨rfl,hb⟩;refine⟨_,rfl,?_⟩;replace D:=bkB D hb;replace G:=bkB G hb;replace HB:=hbB HB hb;(try clear hb)))
  go_loopg [6] k (fun kq v6 w'=> ∃(I:Int) (U:Int) (L:Int),v6= .int .i64 I∧Aside0 (recoupref03_Pick.l0 kq l1 I Y O Z=some (r1,r2,r3,r4))∧Aside0 (kq≤k)∧Aside0 (w'.heap[ah]? =some (.cells #[.int .i64 Y,.int .i64 O,(.slice al Z.length am)] 24 (0,0)))∧Aside0 (w'.heap[ak]? =some (.cells #[.int .i64 U,.int .i64 L,(.slice none 0 0)] 24 (0,0)))∧Aside0 (Below w.heap.size w w'))
  case atStart=>exact⟨(0),(0),(0),rsE,H',⟨Nat.le_refl _⟩,⟨bkA D.out⟩,⟨bkA G.out⟩,⟨hbA HB.out⟩⟩
  case round=>
   clear H'
   (try clear c1);(try clear p2);(try clear c3);(try clear c4);(try clear c7);(try clear bb bc bd be bf bg)
   obtain⟨I,U,L,rfl,HA,co,D,G,HB⟩:=hrel
   cases gk with
   |zero=>exact absurd HA.out (by simp[recoupref03_Pick.l0])
   |succ k1=>
    have H:=HA.out;clear HA;simp only[recoupref03_Pick.l0]at H;by_cases a6:I<(l1.length:Int)
    ·rw[if_pos a6]at H
     have c10b0:decide (I<(l1.length:Int))=true:=decide_eq_true a6;clear a6;by_cases bl:0≤I
     ·rw[if_pos bl]at H
      have c11b0:decide (0≤I)=true:=decide_eq_true bl;clear bl;by_cases a7:(rd l1 I)<0
      ·rw[if_pos a7]at H
       have c12b0:decide ((rd l1 I)<0)=true:=decide_eq_true a7;clear a7;simp only[Option.some.injEq,Prod.mk.injEq]at H;obtain⟨rfl,rfl,rfl,rfl⟩:=H
       try go_wp2
       replace D:=aK (blk_drew D.out);replace G:=aK (blk_drew G.out);replace HB:=aK (below_drew1 HB.out);have ao:0≤(I:Int):=of_decide_eq_true asE;have ap:I<(l1.length:Int):=of_decide_eq_true asE;obtain⟨an,a1,J⟩:=Kd.at_int bi.out I ao ap;have ai:=J
       cases a1
       replace J:=(HB.out.cell (World.block_lt_of_cell? w _ J)).trans J;replace ao:=eq_true ao;replace ap:=eq_true ap;refine start_ (n:=14) (S:=fun w'=>w'.cell? (an.add (I).toNat)=some (.int .i64 (rd l1 I))) (ds:= []) (.replicate 14 false) zb rfl rfl (((HB.out.cell (World.block_lt_of_cell? w _ ai)).trans ai)) (fun hHeld=>?_);refine with_tabW recoupref03_Pick.tab6 recoupref03_Pick.bits6 (fun HT_ HW_=>?_);generalize wr.drew=fx at D G HB J hHeld⊢;refine pu 0 (some 21) (mB 14 1) HT_ ?_;refine pu 1 (some 22) (mB 14 3) HT_ ?_;refine pu 2 (some 23) (mB 14 7) HT_ ?_;refine tk1 3 (some 24) (mB 14 15) HT_ HW_ hHeld ?_;refine pu 4 (some 25) (mB 14 31) HT_ ?_;refine pu 5 (some 26) (mB 14 63) HT_ ?_;refine zpo 6 (some 27) (mB 14 127) HT_ ?_;refine zpo 7 (some 28) (mB 14 255) HT_ ?_;refine zpo 8 (some 29) (mB 14 511) HT_ ?_;refine zpo 9 (some 30) (mB 14 1023) HT_ ?_;refine zpo 10 (some 31) (mB 14 2047) HT_ ?_;refine zpo 11 (some 32) (mB 14 4095) HT_ ?_;refine zpo 12 (some 33) (mB 14 8191) HT_ ?_;refine pu 13 (some 34) (mB 14 16383) HT_ ?_;refine done_ (done_of HT_.out zb) ?_;have ep:=ac.out;have e2:=ab.out;obtain⟨bo,bp,bq,b4,b5,b6⟩:=cell3 G
       try go_wp2
       refine bodyPost_ret (results_ct rfl _ _ ak 24 #[.int .i64 0,.int .i64 0,.slice none 0 0] (0,0) _ rfl zac Tryd.underlying24 rfl zb) rfl ?_;exact⟨_,rfE,nilE,hbA HB.out⟩
      ·rw[if_neg a7]at H
       have c12b0:decide ((rd l1 I)<0)=false:=decide_eq_false a7;clear a7;by_cases a8:(rd l1 I)≥Y
       ·rw[if_pos a8]at H
        have c16b0:decide (Y≤(rd l1 I))=true:=decide_eq_true a8;clear a8;simp only[Option.some.injEq,Prod.mk.injEq]at H;obtain⟨rfl,rfl,rfl,rfl⟩:=H
        try go_wp2
        replace D:=aK (blk_drew D.out);replace G:=aK (blk_drew G.out);replace HB:=aK (below_drew1 HB.out);have ao:0≤(I:Int):=of_decide_eq_true asE;have ap:I<(l1.length:Int):=of_decide_eq_true asE;obtain⟨an,a1,J⟩:=Kd.at_int bi.out I ao ap;have ai:=J
        cases a1
        replace J:=(HB.out.cell (World.block_lt_of_cell? w _ J)).trans J;replace ao:=eq_true ao;replace ap:=eq_true ap;have ay:0≤(I:Int):=of_decide_eq_true asE;have az:I<(l1.length:Int):=of_decide_eq_true asE;obtain⟨a5,bm,X⟩:=Kd.at_int bi.out I ay az;have aq:=X;obtain rfl:an=a5:=(by injection bm)
        replace X:=(HB.out.cell (World.block_lt_of_cell? w _ X)).trans X;replace ay:=eq_true ay;replace az:=eq_true az;refine start_ (n:=14) (S:=fun w'=>w'.cell? ⟨ah,0,none⟩=some (.int .i64 Y)∧w'.cell? ⟨ah,1,none⟩=some (.int .i64 O)∧w'.cell? ⟨ah,2,none⟩=some (.slice al Z.length am)∧w'.cell? (an.add (I).toNat)=some (.int .i64 (rd l1 I))∧w'.cell? (an.add (I).toNat)=some (.int .i64 (rd l1 I))) (ds:= []) (.replicate 14 false) zb rfl rfl ⟨(blk_cell D.out 0).trans rfl,(blk_cell D.out 1).trans rfl,(blk_cell D.out 2).trans rfl,((HB.out.cell (World.block_lt_of_cell? w _ ai)).trans ai),((HB.out.cell (World.block_lt_of_cell? w _ aq)).trans aq)⟩ (fun hHeld=>?_);refine with_tabW recoupref03_Pick.tab6 recoupref03_Pick.bits6 (fun HT_ HW_=>?_);generalize wr.drew=fy at D G HB J X hHeld⊢;refine pu 0 (some 21) (mB 14 1) HT_ ?_;refine pu 1 (some 22) (mB 14 3) HT_ ?_;refine pu 2 (some 23) (mB 14 7) HT_ ?_;refine tk5 3 (some 24) (mB 14 15) HT_ HW_ hHeld ?_;refine pu 4 (some 25) (mB 14 31) HT_ ?_;refine pu 5 (some 26) (mB 14 63) HT_ ?_;refine pu 6 (some 27) (mB 14 127) HT_ ?_;refine pu 7 (some 28) (mB 14 255) HT_ ?_;refine pu 8 (some 29) (mB 14 511) HT_ ?_;refine pu 10 (some 31) (mB 14 1535) HT_ ?_;refine tk5 9 (some 30) (mB 14 2047) HT_ HW_ hHeld ?_;refine tk5 11 (some 32) (mB 14 4095) HT_ HW_ hHeld ?_;refine pu 12 (some 33) (mB 14 8191) HT_ ?_;refine pu 13 (some 34) (mB 14 16383) HT_ ?_;refine done_ (done_of HT_.out zb) ?_;have er:=ac.out;have e3:=ab.out;obtain⟨br,bs,bt,b7,b8,b9⟩:=cell3 G
        try go_wp2
        refine bodyPost_ret (results_ct rfl _ _ ak 24 #[.int .i64 0,.int .i64 0,.slice none 0 0] (0,0) _ rfl zac Tryd.underlying24 rfl zb) rfl ?_;exact⟨_,rfE,nilE,hbA HB.out⟩
       ·rw[if_neg a8]at H
        have c16b0:decide (Y≤(rd l1 I))=false:=decide_eq_false a8;clear a8;have H':=aK H;clear H
        try go_wp2
        replace D:=aK (blk_drew D.out);replace G:=aK (blk_drew G.out);replace HB:=aK (below_drew1 HB.out);have ao:0≤(I:Int):=of_decide_eq_true asE;have ap:I<(l1.length:Int):=of_decide_eq_true asE;obtain⟨an,a1,J⟩:=Kd.at_int bi.out I ao ap;have ai:=J
        cases a1
        replace J:=(HB.out.cell (World.block_lt_of_cell? w _ J)).trans J;replace ao:=eq_true ao;replace ap:=eq_true ap;have ay:0≤(I:Int):=of_decide_eq_true asE;have az:I<(l1.length:Int):=of_decide_eq_true asE;obtain⟨a5,bm,X⟩:=Kd.at_int bi.out I ay az;have aq:=X;obtain rfl:an=a5:=(by injection bm)
        replace X:=(HB.out.cell (World.block_lt_of_cell? w _ X)).trans X;replace ay:=eq_true ay;replace az:=eq_true az;refine start_ (n:=14) (S:=fun w'=>w'.cell? ⟨ah,0,none⟩=some (.int .i64 Y)∧w'.cell? ⟨ah,1,none⟩=some (.int .i64 O)∧w'.cell? ⟨ah,2,none⟩=some (.slice al Z.length am)∧w'.cell? (an.add (I).toNat)=some (.int .i64 (rd l1 I))∧w'.cell? (an.add (I).toNat)=some (.int .i64 (rd l1 I))) (ds:= []) (.replicate 14 false) zb rfl rfl ⟨(blk_cell D.out 0).trans rfl,(blk_cell D.out 1).trans rfl,(blk_cell D.out 2).trans rfl,((HB.out.cell (World.block_lt_of_cell? w _ ai)).trans ai),((HB.out.cell (World.block_lt_of_cell? w _ aq)).trans aq)⟩ (fun hHeld=>?_);refine with_tabW recoupref03_Pick.tab6 recoupref03_Pick.bits6 (fun HT_ HW_=>?_);generalize wr.drew=fz at D G HB J X hHeld⊢;refine pu 0 (some 21) (mB 14 1) HT_ ?_;refine pu 1 (some 22) (mB 14 3) HT_ ?_;refine pu 2 (some 23) (mB 14 7) HT_ ?_;refine tk5 3 (some 24) (mB 14 15) HT_ HW_ hHeld ?_;refine pu 4 (some 25) (mB 14 31) HT_ ?_;refine pu 5 (some 26) (mB 14 63) HT_ ?_;refine pu 6 (some 27) (mB 14 127) HT_ ?_;refine pu 7 (some 28) (mB 14 255) HT_ ?_;refine pu 8 (some 29) (mB 14 511) HT_ ?_;refine pu 10 (some 31) (mB 14 1535) HT_ ?_;refine tk5 9 (some 30) (mB 14 2047) HT_ HW_ hHeld ?_;refine tk5 11 (some 32) (mB 14 4095) HT_ HW_ hHeld ?_;refine pu 12 (some 33) (mB 14 8191) HT_ ?_;refine pu 13 (some 34) (mB 14 16383) HT_ ?_;refine done_ (done_of HT_.out zb) ?_
        try go_wp2
        go_roundg k1
        case measure=>have:=co.out;omega
        case rel=>exact⟨(wrap64 (I+1)),(U),(L),rsE,H',⟨by have:=co.out;omega⟩,⟨bkA D.out⟩,⟨bkA G.out⟩,⟨hbA HB.out⟩⟩
     ·rw[if_neg bl]at H
      exact absurd H zd
    ·rw[if_neg a6]at H
     have c10b0:decide (I<(l1.length:Int))=false:=decide_eq_false a6;clear a6;by_cases a9:(l1.length:Int)>64
     ·rw[if_pos a9]at H
      have c21b0:decide (64<(l1.length:Int))=true:=decide_eq_true a9;have c21b1:decide (64<l1.length)=true:=decide_eq_true za;clear a9;simp only[Option.some.injEq,Prod.mk.injEq]at H;obtain⟨rfl,rfl,rfl,rfl⟩:=H;have es:=ac.out;have e4:=ab.out;obtain⟨bu,bv,bw,ca,cb,cd⟩:=cell3 G;go_wp2;refine bodyPost_ret (results_ct rfl _ _ ak 24 #[.int .i64 0,.int .i64 0,.slice none 0 0] (0,0) _ rfl zac Tryd.underlying24 rfl zb) rfl ?_;exact⟨_,rfE,nilE,hbA HB.out⟩
     ·rw[if_neg a9]at H
      have c21b0:decide (64<(l1.length:Int))=false:=decide_eq_false a9;have c21b1:decide (64<l1.length)=false:=decide_eq_false za;clear a9;have H':=aK H;clear H;have et:=ab.out;have e5:=ac.out;obtain⟨bx,bz,b0,ce,cf,cg⟩:=cell3 D
      go_wp2_with (first|((with_reducible refine gD 7 rfl ?_);refine bE 7 #[.int .i64 0,.int .i64 0,.slice none 0 0] 24 ?_;intro ba hg f0 hbox hb;have aa:=aK (hbox);have eo:=hbS HB hg;have en:=hbS HB hg;replace HB:=hbB HB hb;have af:=neL D hg;have au:=neG D hg;replace D:=bkB D hb;have ag:=neL G hg;have av:=neG G hg;replace G:=bkB G hb;clear hb hbox hg;have eu:=au.out;have e6:=af.out;have ev:=av.out;have e7:=ag.out;obtain⟨b1,b2,b3,ch,ci,cj⟩:=cell3 aa))
      go_loopg [8] k1 (fun kq v8 w'=> ∃(aj:Int) (ae:List Int) (u195002:Value),v8= .int .i64 aj∧Aside0 (recoupref03_Pick.l1 kq l1 aj Y O Z (l1.length:Int) O ae=some (r1,r2,r3,r4))∧Aside0 (kq≤k1)∧Aside0 (Kd.R (Kd.int .u8) 5 w' w.heap.size (fun _=>True) u195002 ae)∧Aside0 (w'.heap[ah]? =some (.cells #[.int .i64 Y,.int .i64 O,(.slice al Z.length am)] 24 (0,0)))∧Aside0 (w'.heap[ak]? =some (.cells #[.int .i64 U,.int .i64 L,(.slice none 0 0)] 24 (0,0)))∧Aside0 (w'.heap[ba]? =some (.cells #[.int .i64 (l1.length:Int),.int .i64 O,u195002] 24 (0,0)))∧Aside0 (Below w.heap.size w w'))
      case atStart=>exact⟨(0),(([]:List Int)),(.slice none 0 0),rsE,H',⟨Nat.le_refl _⟩,⟨nilE⟩,⟨by refine bkR ?_;refine blk_far ?_ af.out _;refine bkR ?_;refine blk_far ?_ af.out _;refine bkR ?_;refine blk_far ?_ af.out _;refine bkR ?_;exact D.out⟩,⟨by refine bkR ?_;refine blk_far ?_ ag.out _;refine bkR ?_;refine blk_far ?_ ag.out _;refine bkR ?_;refine blk_far ?_ ag.out _;refine bkR ?_;exact G.out⟩,⟨by refine bkR ?_;refine blk_put (cs:= #[.int .i64 (l1.length:Int),.int .i64 O,.slice none 0 0]) ?_ 2 _ rfl;refine bkR ?_;refine blk_put (cs:= #[.int .i64 (l1.length:Int),.int .i64 0,.slice none 0 0]) ?_ 1 _ rfl;refine bkR ?_;refine blk_put (cs:= #[.int .i64 0,.int .i64 0,.slice none 0 0]) ?_ 0 _ rfl;refine bkR ?_;exact aa.out⟩,⟨hbA HB.out⟩⟩
      case round=>
       clear H'
       (try clear c1);(try clear p1);(try clear q1);(try clear fu);(try clear c2);(try clear p2 p2);(try clear c3);(try clear c4);(try clear p6);(try clear c7);(try clear a6);(try clear c10b0);(try clear bl);(try clear c11b0);(try clear a7);(try clear c12b0);(try clear fl);(try clear a8);(try clear c16b0);(try clear fm);(try clear fv);(try clear fw);(try clear fh);(try clear a9);(try clear c21b0);(try clear c21b1);(try clear fo);(try clear fp);(try clear fq);(try clear fs);(try clear bo bp bq b4 b5 b6);(try clear br bs bt b7 b8 b9);(try clear bu bv bw ca cb cd);(try clear bx bz b0 ce cf cg);(try clear b1 b2 b3 ch ci cj);(try clear bb bc bd be bf bg);(try clear J);(try clear X);(try clear ao);(try clear ay);(try clear ap);(try clear az)
       obtain⟨aj,ae,u195002,rfl,HA,db,HO_195002,D,G,aa,HB⟩:=hrel
       cases gk with
       |zero=>exact absurd HA.out (by simp[recoupref03_Pick.l1])
       |succ k2=>
        have H:=HA.out;clear HA;simp only[recoupref03_Pick.l1]at H;by_cases bj:aj<(l1.length:Int)
        ·rw[if_pos bj]at H
         have c30b0:decide (aj<(l1.length:Int))=true:=decide_eq_true bj;clear bj;by_cases cp:0≤aj
         ·rw[if_pos cp]at H
          have c31b0:decide (0≤aj)=true:=decide_eq_true cp;clear cp;obtain⟨⟨a2,el⟩,em,H⟩:=bindO H
          (try dsimp only at H)
          by_cases cq:ae.length+a2.length<140737488355328
          ·rw[if_pos cq]at H
           have c5:=aK cq;clear cq;obtain⟨bh,a0⟩: ∃y_:List Int,y_=(ae++a2):=⟨_,rfl⟩
           replace H:(recoupref03_Pick.l1 k2 l1 (wrap64 (aj+1)) Y O Z (l1.length:Int) O bh)=some (r1,r2,r3,r4):=by first|(rw[a0];with_reducible exact H)|(have H2_:=(Option.bind_some _ _).symm.trans H;rw[a0];with_reducible exact H2_)|(have H2_:=(Option.bind_some _ _).symm.trans H;with_reducible exact H2_)|with_reducible exact H|(rw[a0];exact H)|exact H
           have c6:=aK a0;clear a0;have H':=aK H;clear H
           try go_wp2
           replace HO_195002:=aK (Kd.R_drew HO_195002.out);replace D:=aK (blk_drew D.out);replace G:=aK (blk_drew G.out);replace aa:=aK (blk_drew aa.out);replace HB:=aK (below_drew1 HB.out);have cl:0≤(aj:Int):=of_decide_eq_true asE;have cm:aj<(l1.length:Int):=of_decide_eq_true asE;obtain⟨c8,dd,ar⟩:=Kd.at_int bi.out aj cl cm;have aw:=ar
           cases dd
           replace ar:=(HB.out.cell (World.block_lt_of_cell? w _ ar)).trans ar;replace cl:=eq_true cl;replace cm:=eq_true cm;refine start_ (n:=11) (S:=fun w'=>w'.cell? ⟨ah,0,none⟩=some (.int .i64 Y)∧w'.cell? ⟨ah,1,none⟩=some (.int .i64 O)∧w'.cell? ⟨ah,2,none⟩=some (.slice al Z.length am)∧w'.cell? (c8.add (aj).toNat)=some (.int .i64 (rd l1 aj))) (ds:= []) (.replicate 11 false) zb rfl rfl ⟨(blk_cell D.out 0).trans rfl,(blk_cell D.out 1).trans rfl,(blk_cell D.out 2).trans rfl,((HB.out.cell (World.block_lt_of_cell? w _ aw)).trans aw)⟩ (fun hHeld=>?_);refine with_tabW recoupref03_Pick.tab14 recoupref03_Pick.bits14 (fun HT_ HW_=>?_);generalize wr.drew=f1 at HO_195002 D G aa HB ar hHeld⊢;refine pu 1 (some 53) (mB 11 2) HT_ ?_;refine pu 2 (some 54) (mB 11 6) HT_ ?_;refine pu 3 (some 55) (mB 11 14) HT_ ?_;refine tk4 0 (some 52) (mB 11 15) HT_ HW_ hHeld ?_;refine tk4 4 (some 56) (mB 11 31) HT_ HW_ hHeld ?_;refine zoh 5 (some 57) (mB 11 63) HT_ fun K hK=>?_;refine goes_ Tryd.func38 zb rfl #[.agg #[.int .i64 Y,.int .i64 O,.slice al Z.length am],.int .i64 (rd l1 aj)] ze rfl rfl (by(try simp only[List.map_toArray,List.map_cons,List.map_nil]);first|done|rfl|(simp only[List.length_drop,List.length_take];rfl)) ?_;with_reducible refine(recoupref03_Row.calls k2 Y O _ _ Z (rd l1 aj) a2 el _ ?side1 ?side2 em.out).mono ?_
           (case side1=>exact kcB a4 HB)
           (case side2=>exact a3.out)
           rintro e f2 ⟨fi,rfl,c9,hb⟩;refine⟨_,rfl,?_⟩;have ax:=aK (Kd.R_lower (Kd.R_new' c9 (Kd.R_lt (kdA HO_195002.out))) (below_size (hbA HB.out)));replace HO_195002:=aK (Kd.R_elder' (kdA HO_195002.out) (Kd.R_base c9) hb);replace D:=bkB D hb;replace G:=bkB G hb;replace aa:=bkB aa hb;replace HB:=hbB HB hb
           (try clear hb)
           (try clear ft)
           (try clear hk)
           (try clear hi)
           (try clear c9)
           refine hK.out _ _ ⟨(blk_cell D.out 0).trans rfl,(blk_cell D.out 1).trans rfl,(blk_cell D.out 2).trans rfl,((HB.out.cell (World.block_lt_of_cell? w _ aw)).trans aw)⟩ (fun hHeld=>?_);clear hK K;refine znm (some 57) ?_;refine pu 6 (some 51) (mB 11 127) HT_ ?_;refine pu 7 (some 58) (mB 11 255) HT_ ?_;refine pu 8 (some 59) (mB 11 511) HT_ ?_;refine pu 9 (some 9) (mB 11 1023) HT_ ?_;refine pu 10 (some 10) (mB 11 2047) HT_ ?_;refine done_ (done_of HT_.out zb) ?_;have ew:=au.out;have e8:=af.out;have ex:=av.out;have e9:=ag.out;obtain⟨di,dj,dk,d2,d3,d4⟩:=cell3 aa;obtain⟨da,dc,de⟩:=Kd.R_slice ax.out;subst de
           try go_wp2_with (first|((with_reducible refine gate_builtin (b:= .append) (xs:= #[.tmp 61,.tmp 62]) rfl ?_);at_builtin;refine Kd.R_append_rows (Kd.int .u8) (w0:=w) w.heap.size rfl (.tmp 61) (.tmp 62) 22 5 (.int .u8 0) 1 rfl Tryd.underlying22 info5 rfl zc za u195002 ae a2 _ _ _ (fun k_=>some k_≠(.slice da a2.length dc:Value).ownBlock) (fun _=>False) rfl rfl ?aO ?aR (fun _ _ h=>h) (fun _ h=>h.elim) ?aF ?aB ?aS ?aL ?_;(case aR=>exact kcA (Kd.R_reads' ax.out).2.2);(case aB=>exact(hbA HB.out));(case aF=>exact(fun k_ hk=>Kd.fresh' (Kd.R_lt (kdA ax.out)) k_ hk));(case aO=>exact(by(with_reducible repeat(first|apply Kd.R_alloc|apply Kd.R_drewN|apply Kd.R_drew));exact Kd.R_mono HO_195002.out (fun _ hk=>hk.2)));(case aS=>exact(below_size (hbA HB.out)));(case aL=>have:=c5.out;omega);intro fj f3 ho hb hg hat;rw[←c6.out]at ho;have n0_:=aK (blk_grown (g:=ah) (o:= .cells #[.int .i64 Y,.int .i64 O,.slice al Z.length am] 24 (0,0)) (bkA D.out) hg (Kd.R_ne HO_195002.out D.out zc));have n1_:=aK (blk_grown (g:=ak) (o:= .cells #[.int .i64 U,.int .i64 L,.slice none 0 0] 24 (0,0)) (bkA G.out) hg (Kd.R_ne HO_195002.out G.out zc));have n2_:=aK (blk_grown (g:=ba) (o:= .cells #[.int .i64 (l1.length:Int),.int .i64 O,u195002] 24 (0,0)) (bkA aa.out) hg (Kd.R_ne HO_195002.out aa.out zc));have n3_:=aK (Kd.R_after (ok:=(fun _=>True)) (kdA ax.out) hg hat);have n4_:=aK (hb);have n5_:=aK (ho);clear D;clear G;clear aa;clear ax;clear HB;clear HO_195002;have D:=n0_;have G:=n1_;have aa:=n2_;have ax:=n3_;have HB:=n4_;have bk:=n5_;clear n0_ n1_ n2_ n3_ n4_ n5_;clear ho hb hg hat;obtain⟨cr,cu,df⟩:=Kd.R_slice bk.out;subst df;obtain⟨dl,dm,dn,d5,d6,d7⟩:=cell3 aa))
           go_roundg k2
           case measure=>have:=co.out;have:=db.out;omega
           case rel=>exact⟨(wrap64 (aj+1)),(bh),(.slice cr bh.length cu),rsE,H',⟨by have:=co.out;have:=db.out;omega⟩,⟨by(with_reducible repeat(first|apply Kd.R_alloc|apply Kd.R_drewN|apply Kd.R_drew));exact Kd.R_mono (Kd.R_far (p:=⟨ba,2,none⟩) (Kd.R_types bk.out aa.out zc) (fun _ hk=>hk.2) (.slice cr bh.length cu)) (fun _ hk=>trivial)⟩,⟨by refine bkR ?_;refine blk_far ?_ af.out _;refine bkR ?_;exact D.out⟩,⟨by refine bkR ?_;refine blk_far ?_ ag.out _;refine bkR ?_;exact G.out⟩,⟨by refine bkR ?_;refine blk_put (cs:= #[.int .i64 (l1.length:Int),.int .i64 O,u195002]) ?_ 2 _ rfl;refine bkR ?_;exact aa.out⟩,⟨hbA HB.out⟩⟩
          ·rw[if_neg cq]at H
           exact absurd H zd
         ·rw[if_neg cp]at H
          exact absurd H zd
        ·rw[if_neg bj]at H
         have c30b0:decide (aj<(l1.length:Int))=false:=decide_eq_false bj;clear bj;simp only[Option.some.injEq,Prod.mk.injEq]at H;obtain⟨rfl,rfl,rfl,rfl⟩:=H;have ey:=au.out;have fa:=af.out;have ez:=av.out;have fb:=ag.out;obtain⟨dp,dq,dr,d8,d9,ea⟩:=cell3 aa;have e0:=ac.out;have fc:=ab.out;obtain⟨dt,du,dv,eb,ec,ed⟩:=cell3 G;obtain⟨ct,cv,dg⟩:=Kd.R_slice HO_195002.out;subst dg;go_wp2;refine bodyPost_ret (results_ct rfl _ _ ak 24 #[.int .i64 (l1.length:Int),.int .i64 O,.slice ct ae.length cv] (0,0) _ rfl (by refine bkR ?_;refine blk_put (cs:= #[.int .i64 (l1.length:Int),.int .i64 O,.slice none 0 0]) ?_ 2 _ rfl;refine bkR ?_;refine blk_put (cs:= #[.int .i64 (l1.length:Int),.int .i64 L,.slice none 0 0]) ?_ 1 _ rfl;refine bkR ?_;refine blk_put (cs:= #[.int .i64 U,.int .i64 L,.slice none 0 0]) ?_ 0 _ rfl;refine bkR ?_;exact G.out) Tryd.underlying24 rfl zb) rfl ?_;exact⟨_,rfE,by(with_reducible repeat(first|apply Kd.R_alloc|apply Kd.R_drewN|apply Kd.R_drew));exact Kd.R_mono (Kd.R_far (p:=⟨ak,2,none⟩) (Kd.R_far (p:=⟨ak,1,none⟩) (Kd.R_far (p:=⟨ak,0,none⟩) (Kd.R_types HO_195002.out G.out zc) (fun _ hk=>hk.2) (.int .i64 (l1.length:Int))) (fun _ hk=>hk.2) (.int .i64 O)) (fun _ hk=>hk.2) (.slice ct ae.length cv)) (fun _ hk=>trivial),hbA HB.out⟩
 ·replace c4:=Bool.eq_false_iff.mpr c4;subst c4;rw[if_neg nofT]at H
  simp only[Option.some.injEq,Prod.mk.injEq]at H;obtain⟨rfl,rfl,rfl,rfl⟩:=H
  go_enter Tryd.func16,Tryd.ntmps16
  go_wp2_with (first|((with_reducible refine gD 2 rfl ?_);refine bE 2 #[.int .i64 Y,.int .i64 O,.slice al Z.length am] 24 ?_;intro ah hg f4 hbox hb;have D:=aK (hbox);have cy:=hbS HB hg;have cw:=hbS HB hg;replace HB:=hbB HB hb;clear hb hbox hg)|((with_reducible refine gD 4 rfl ?_);refine bE 4 #[.int .i64 0,.int .i64 0,.slice none 0 0] 24 ?_;intro ak hg f5 hbox hb;have G:=aK (hbox);have cz:=hbS HB hg;have cx:=hbS HB hg;replace HB:=hbB HB hb;have ab:=neL D hg;have ac:=neG D hg;replace D:=bkB D hb;clear hb hbox hg;have e1:=ab.out;have fd:=ac.out;obtain⟨dw,dx,dy,ee,ef,eg⟩:=cell3 D)|((with_reducible refine gC 37 rfl ?_);refine cG (some 12) Tryd.func37 #[.agg #[.int .i64 Y,.int .i64 O,.slice al Z.length am]] ?_;(with_reducible refine(recoupref03_Right.calls Y O _ _ Z false _ ?side1 ?side2 A3.out).mono ?_);(case side1=>exact kcB a4 HB);(case side2=>exact a3.out);rintro e f6 ⟨rfl,hb⟩;refine⟨_,rfl,?_⟩;replace D:=bkB D hb;replace G:=bkB G hb;replace HB:=hbB HB hb;(try clear hb);obtain⟨dz,d0,d1,eh,ei,ej⟩:=cell3 G))
  refine bodyPost_ret (results_ct rfl _ _ ak 24 #[.int .i64 0,.int .i64 0,.slice none 0 0] (0,0) _ rfl (by refine bkR ?_;refine blk_put (cs:= #[.int .i64 0,.int .i64 0,.slice none 0 0]) ?_ 2 _ rfl;refine bkR ?_;refine blk_put (cs:= #[.int .i64 0,.int .i64 0,.slice none 0 0]) ?_ 1 _ rfl;refine bkR ?_;refine blk_put (cs:= #[.int .i64 0,.int .i64 0,.slice none 0 0]) ?_ 0 _ rfl;refine bkR ?_;exact G.out) Tryd.underlying24 rfl zb) rfl ?_;exact⟨_,rfE,nilE,hbA HB.out⟩
end Go.Proofs.YtkagobkedifhkaaDoor.Q
namespace Go.Proofs.YtkagobkedifhkaaDoor.Q
open Go.RowKit Go.Proofs.YtkagobkedifhkaaDoorW.PrintWords Go.Proofs.YtkagobkedifhkaaDoorW.PrintLast Go.Proofs.YtkagobkedifhkaaDoorW.PrintMore
attribute [local go_sem] max2_int min2_int max_two min_two max_three min_three max_four min_four
set_option linter.unusedVariables false
set_option linter.unusedSimpArgs false
def recoupref06_Has.f(a0:Int)(a1:Int):Option (Bool):=if a1≥0 then(if a1<64 then(if 0≤(IntKind.u64.wrap (a1))then(some ((Go.bits .and .u64 (shr .u64 a0 (IntKind.u64.wrap (a1))) 1)==1))else(none))else(some false))else(some false)
set_option maxHeartbeats 8000000 in
set_option maxRecDepth 100000 in
theorem recoupref06_Has.calls(a0:Int)(a1:Int)(r:Bool)(w:World)(h:recoupref06_Has.f a0 a1=some r):
 Calls Tryd.prog 26 #[.int .u64 a0,.int .i64 a1] w fun e w'=>e= .returned (.bool r)∧Drawn0 w w':=by
 have H:(if a1≥0 then(if a1<64 then(if 0≤(IntKind.u64.wrap (a1))then(some ((Go.bits .and .u64 (shr .u64 a0 (IntKind.u64.wrap (a1))) 1)==1))else(none))else(some false))else(some false))=some r:=h;clear h;by_cases c3:a1≥0
 ·rw[if_pos c3]at H
  have c3b0:decide (0≤a1)=true:=decide_eq_true c3;clear c3;by_cases c4:a1<64
  ·rw[if_pos c4]at H
   have c4b0:decide (a1<64)=true:=decide_eq_true c4;clear c4;obtain⟨G,I⟩: ∃j_:Int,(IntKind.u64.wrap (a1))=j_:=⟨_,rfl⟩
   replace H:(if 0≤(G)then(some ((Go.bits .and .u64 (shr .u64 a0 (G)) 1)==1))else(none))=some r:=by first|(rw[I]at H;exact H)|(simp only[I]at H⊢;exact H)
   by_cases c6:0≤(G)
   ·rw[if_pos c6]at H
    have c6b0:=eq_true c6;have c6b1:decide (0≤(G))=true:=decide_eq_true c6;clear c6;obtain⟨J,D⟩: ∃j_:Int,(shr .u64 a0 (G))=j_:=⟨_,rfl⟩
    replace H:(some ((Go.bits .and .u64 (J) 1)==1))=some r:=by first|(rw[D]at H;exact H)|(simp only[D]at H⊢;exact H)
    have hji7_:(a0 / 2^min (G).toNat 64)=J:=D;have hji7z:(G)≤64→(a0 / 2^(G).toNat)=J:=shr_small D;obtain rfl:=Option.some.inj H
    go_enter Tryd.func26,Tryd.ntmps26
    go_wp2
    go_ret
    exact⟨by first|rfl|(simp;done)|(simp only[←I,←D]<;>(first|rfl|simp))|(simp[*];done),by repeat(first|exact Drawn0.refl _|apply Drawn0.step)⟩
   ·rw[if_neg c6]at H
    exact absurd H zd
  ·rw[if_neg c4]at H
   have c4b0:decide (a1<64)=false:=decide_eq_false c4;clear c4;obtain rfl:=Option.some.inj H
   go_enter Tryd.func26,Tryd.ntmps26
   go_wp2
   go_ret
   exact⟨by first|rfl|(simp;done)|(simp[*];done),by repeat(first|exact Drawn0.refl _|apply Drawn0.step)⟩
 ·rw[if_neg c3]at H
  have c3b0:decide (0≤a1)=false:=decide_eq_false c3;clear c3;obtain rfl:=Option.some.inj H
  go_enter Tryd.func26,Tryd.ntmps26
  go_wp2
  go_ret
  exact⟨by first|rfl|(simp;done)|(simp[*];done),by repeat(first|exact Drawn0.refl _|apply Drawn0.step)⟩
def recoupref06_List.l0:Nat→Int→List Int→Int→Option (List Int)
 |0,_,_,_=>none
 |k+1,x0,x3,x4=>if x4<64 then((recoupref06_Has.f x0 x4).bind fun D=>(if D=true then(if x3.length<17592186044416 then(recoupref06_List.l0 k x0 (x3++ [x4]) (wrap64 (x4+1)))else(none))else(recoupref06_List.l0 k x0 x3 (wrap64 (x4+1)))))else(some x3)
def recoupref06_List.f(k:Nat)(a0:Int):Option (List Int):=recoupref06_List.l0 k a0 ([]:List Int) 0
set_option maxHeartbeats 8000000 in
set_option maxRecDepth 100000 in
theorem recoupref06_List.calls(k:Nat)(a0:Int)(r:List Int)(w:World)(h:recoupref06_List.f k a0=some r):
 Calls Tryd.prog 17 #[.int .u64 a0] w fun e w'=> ∃v0_:Value,e= .returned (v0_)∧Kd.R (Kd.int .i64) 3 w' w.heap.size (fun _=>True) v0_ r∧Below w.heap.size w w':=by
 have HB:=aK (Below.refl w.heap.size w);have H:(recoupref06_List.l0 k a0 ([]:List Int) 0)=some r:=h;clear h;have H':=aK H;clear H
 go_enter Tryd.func17,Tryd.ntmps17
 go_wp2
 go_loopg [3,4] k (fun kq v3 v4 w'=> ∃(I:List Int) (D:Int),v4= .int .i64 D∧Aside0 (recoupref06_List.l0 kq a0 I D=some r)∧Aside0 (kq≤k)∧Aside0 (Kd.R (Kd.int .i64) 3 w' w.heap.size (fun _=>True) v3 I)∧Aside0 (Below w.heap.size w w'))
 case atStart=>exact⟨(([]:List Int)),(0),rsE,H',⟨Nat.le_refl _⟩,⟨nilE⟩,⟨hbA HB.out⟩⟩
 case round=>
  clear H'
  (try clear c1)
  obtain⟨I,D,rfl,HA,J,HO_3,HB⟩:=hrel
  cases gk with
  |zero=>exact absurd HA.out (by simp[recoupref06_List.l0])
  |succ k1=>
   have H:=HA.out;clear HA;simp only[recoupref06_List.l0]at H;by_cases c2:D<64
   ·rw[if_pos c2]at H
    have c2b0:decide (D<64)=true:=decide_eq_true c2;clear c2;obtain⟨Y,A3,H⟩:=bindO H
    (try dsimp only at H)
    by_cases c4:Y=true
    ·subst c4;rw[if_pos rfl]at H
     by_cases c5:I.length<17592186044416
     ·rw[if_pos c5]at H
      have X:=aK c5;clear c5;obtain⟨L,G⟩: ∃y_:List Int,y_=(I++ [D]):=⟨_,rfl⟩
      replace H:(recoupref06_List.l0 k1 a0 L (wrap64 (D+1)))=some r:=by first|(rw[G];with_reducible exact H)|(have H2_:=(Option.bind_some _ _).symm.trans H;rw[G];with_reducible exact H2_)|(have H2_:=(Option.bind_some _ _).symm.trans H;with_reducible exact H2_)|with_reducible exact H|(rw[G];exact H)|exact H
      have U:=aK G;clear G;have H':=aK H;clear H
      go_wp2_with (first|((with_reducible refine gC 26 rfl ?_);refine cG (some 11) Tryd.func26 #[.int .u64 a0,.int .i64 D] ?_;(with_reducible refine(recoupref06_Has.calls a0 D true _ A3.out).mono ?_);rintro e w' ⟨rfl,⟨nd,rfl⟩⟩;refine⟨_,rfl,?_⟩)|((with_reducible refine gate_builtin (b:= .append) (xs:= #[.tmp 12,.tmp 14]) rfl ?_);at_builtin;refine Kd.R_append (Kd.int .i64) (w0:=w) w.heap.size rfl (.tmp 12) (.tmp 14) 42 3 (.int .i64 0) 8 rfl Tryd.underlying42 info3 rfl zc za u3 I D [.int .i64 D] (fun _=>True) (fun _=>False) rfl rfl ?aP (fun _ hk=>hk.elim) ?aF ?aO ?aB ?aS ?aL ?_;(case aP=>exact rfl);(case aB=>exact(hbA HB.out));(case aF=>exact(fun _ _=>trivial));(case aO=>exact(kdA HO_3.out));(case aS=>exact(below_size (hbA HB.out)));(case aL=>have:=X.out;omega);intro Z w6 ho hb hg hat;rw[←U.out]at ho;have n0_:=aK (hb);have n1_:=aK (ho);clear HB;clear HO_3;have HB:=n0_;have O:=n1_;clear n0_ n1_;clear ho hb hg hat))
      go_roundg k1
      case measure=>have:=J.out;omega
      case rel=>exact⟨(L),(wrap64 (D+1)),rsE,H',⟨by have:=J.out;omega⟩,⟨kdA O.out⟩,⟨hbA HB.out⟩⟩
     ·rw[if_neg c5]at H
      exact absurd H zd
    ·replace c4:=Bool.eq_false_iff.mpr c4;subst c4;rw[if_neg nofT]at H
     have H':=aK H;clear H
     go_wp2_with (first|((with_reducible refine gC 26 rfl ?_);refine cG (some 11) Tryd.func26 #[.int .u64 a0,.int .i64 D] ?_;(with_reducible refine(recoupref06_Has.calls a0 D false _ A3.out).mono ?_);rintro e w' ⟨rfl,⟨nd,rfl⟩⟩;refine⟨_,rfl,?_⟩))
     go_roundg k1
     case measure=>have:=J.out;omega
     case rel=>exact⟨(I),(wrap64 (D+1)),rsE,H',⟨by have:=J.out;omega⟩,⟨kdA HO_3.out⟩,⟨hbA HB.out⟩⟩
   ·rw[if_neg c2]at H
    have c2b0:decide (D<64)=false:=decide_eq_false c2;clear c2;obtain rfl:=Option.some.inj H;go_wp2
    go_ret
    exact⟨_,rfE,by(with_reducible repeat(first|apply Kd.R_alloc|apply Kd.R_drewN|apply Kd.R_drew));exact HO_3.out,hbA HB.out⟩
def recoupref01_Copy.f(l0:List Int):Option (List Int):=(some (([]:List Int):List Int)).bind fun D=>(if D.length+l0.length<140737488355328 then(some (D++l0))else(none))
set_option maxHeartbeats 8000000 in
set_option maxRecDepth 100000 in
theorem recoupref01_Copy.calls(A0:Option Addr)(c0:Nat)(l0:List Int)(r:List Int)(w:World)(aa:Kd.C (Kd.int .u8) w A0 l0.length l0)(Z:l0.length≤c0)(h:recoupref01_Copy.f l0=some r):
 Calls Tryd.prog 50 #[.slice A0 l0.length c0] w fun e w'=> ∃v0_:Value,e= .returned (v0_)∧Kd.R (Kd.int .u8) 5 w' w.heap.size (fun _=>True) v0_ r∧Below w.heap.size w w':=by
 have ae:=aK aa;have ag:=aK Z;clear aa Z;have HB:=aK (Below.refl w.heap.size w);have H:((some (([]:List Int):List Int)).bind fun D=>(if D.length+l0.length<140737488355328 then(some (D++l0))else(none)))=some r:=h;clear h;obtain⟨D,G⟩: ∃y_:List Int,y_=(([]:List Int)):=⟨_,rfl⟩
 replace H:(if D.length+l0.length<140737488355328 then(some (D++l0))else(none))=some r:=by first|(rw[G];with_reducible exact H)|(have H2_:=(Option.bind_some _ _).symm.trans H;rw[G];with_reducible exact H2_)|(have H2_:=(Option.bind_some _ _).symm.trans H;with_reducible exact H2_)|with_reducible exact H|(rw[G];exact H)|exact H
 have L:=aK G;clear G;by_cases c2:D.length+l0.length<140737488355328
 ·rw[if_pos c2]at H
  have Y:=aK c2;clear c2;obtain⟨ac,I⟩: ∃y_:List Int,y_=(D++l0):=⟨_,rfl⟩
  replace H:(some ac)=some r:=by first|(rw[I];with_reducible exact H)|(have H2_:=(Option.bind_some _ _).symm.trans H;rw[I];with_reducible exact H2_)|(have H2_:=(Option.bind_some _ _).symm.trans H;with_reducible exact H2_)|with_reducible exact H|(rw[I];exact H)|exact H
  have X:=aK I;clear I;obtain rfl:=Option.some.inj H
  go_enter Tryd.func50,Tryd.ntmps50
  go_wp2_with (first|((with_reducible refine gate_dst (N:=3) rfl ?_);refine Kd.R_lit (Kd.int .u8) _ 5 ?hg (N:=3) ?hd (xs:=([]:List Int)) (inner:= []) (ok:=fun _=>True) (okp:=fun _=>True) ?hr ?hp (fun _ hk=>hk) trivial (Below.refl _ _) (Nat.le_refl _) zd ?_;(case hd=>rfl);(case hg=>rfl);(case hr=>first|(go_simp;done)|(go_simp;rfl));(case hp=>exact(Reps.none _ _));intro ab w3 O hb hg_ hnew_;clear hg_ hnew_;(first|rw[←L.out]at O|(simp only[Int.reduceToNat]at O;rw[←L.out]at O));have J:=aK (Kd.R_lower O (below_size (hbA HB.out)));replace HB:=hbB HB hb;clear hb O)|((with_reducible refine gate_builtin (b:= .append) (xs:= #[.tmp 3,.tmp 4]) rfl ?_);at_builtin;refine Kd.R_append_rows (Kd.int .u8) (w0:=w) w.heap.size rfl (.tmp 3) (.tmp 4) 22 5 (.int .u8 0) 1 rfl Tryd.underlying22 info5 rfl zc za ab D l0 _ _ _ (fun _=>True) (fun _=>False) rfl rfl ?aO ?aR (fun _ _ h=>h) (fun _ h=>h.elim) ?aF ?aB ?aS ?aL ?_;(case aR=>exact kcB ae HB);(case aB=>exact(hbA HB.out));(case aF=>exact(fun _ _=>trivial));(case aO=>exact(kdA J.out));(case aS=>exact(below_size (hbA HB.out)));(case aL=>have:=Y.out;omega);intro af w5 ho hb hg hat;rw[←X.out]at ho;have n0_:=aK (hb);have n1_:=aK (ho);clear HB;clear J;have HB:=n0_;have U:=n1_;clear n0_ n1_;clear ho hb hg hat))
  go_ret
  exact⟨_,rfE,by(with_reducible repeat(first|apply Kd.R_alloc|apply Kd.R_drewN|apply Kd.R_drew));exact U.out,hbA HB.out⟩
 ·rw[if_neg c2]at H
  exact absurd H zd
def recoupref03_Copy.f(D:Int)(G:Int)(I:List Int):Option (Int×Int×List Int):=(recoupref01_Copy.f I).bind fun J=>(some (D,G,J))
set_option maxHeartbeats 8000000 in
set_option maxRecDepth 100000 in
theorem recoupref03_Copy.calls(I:Int)(O:Int)(Z:Option Addr)(aa:Nat)(G:List Int)(r1:Int)(r2:Int)(r3:List Int)(w:World)(ae:Kd.C (Kd.int .u8) w Z G.length G)(ac:G.length≤aa)(h:recoupref03_Copy.f I O G=some (r1,r2,r3)):
 Calls Tryd.prog 28 #[.agg #[.int .i64 I,.int .i64 O,.slice Z G.length aa]] w fun e w'=> ∃v2_:Value,e= .returned (.agg #[.int .i64 r1,.int .i64 r2,v2_])∧Kd.R (Kd.int .u8) 5 w' w.heap.size (fun _=>True) v2_ r3∧Below w.heap.size w w':=by
 have bc:=Tryd.underlying24;have ah:=aK ae;have ag:=aK ac;clear ae ac;have HB:=aK (Below.refl w.heap.size w);have H:((recoupref01_Copy.f G).bind fun U=>(some (I,O,U)))=some (r1,r2,r3):=h;clear h;obtain⟨U,A2,H⟩:=bindO H
 (try dsimp only at H)
 simp only[Option.some.injEq,Prod.mk.injEq]at H;obtain⟨rfl,rfl,rfl⟩:=H
 go_enter Tryd.func28,Tryd.ntmps28
 go_wp2_with (first|((with_reducible refine gD 1 rfl ?_);refine bE 1 #[.int .i64 I,.int .i64 O,.slice Z G.length aa] 24 ?_;intro aj hg w3 hbox hb;have D:=aK (hbox);have a7:=hbS HB hg;have a5:=hbS HB hg;replace HB:=hbB HB hb;clear hb hbox hg)|((with_reducible refine gD 2 rfl ?_);refine bE 2 #[.int .i64 0,.int .i64 0,.slice none 0 0] 24 ?_;intro X hg w4 hbox hb;have J:=aK (hbox);have a8:=hbS HB hg;have a6:=hbS HB hg;replace HB:=hbB HB hb;have Y:=neL D hg;have L:=neG D hg;replace D:=bkB D hb;clear hb hbox hg;have ba:=Y.out;have bb:=L.out;obtain⟨ar,au,av,az,a0,a1⟩:=cell3 D)|((with_reducible refine gC 50 rfl ?_);refine cG (some 5) Tryd.func50 #[.slice Z G.length aa] ?_;(with_reducible refine(recoupref01_Copy.calls _ _ G U _ ?side1 ?side2 A2.out).mono ?_);(case side1=>exact kcB ah HB);(case side2=>exact ag.out);rintro e w7 ⟨bd,rfl,aq,hb⟩;refine⟨_,rfl,?_⟩;have ab:=aK (Kd.R_lower aq (below_size (hbA HB.out)));replace D:=bkB D hb;replace J:=bkB J hb;replace HB:=hbB HB hb;(try clear hb);(try clear aq);obtain⟨af,ai,a9⟩:=Kd.R_slice ab.out;subst a9;obtain⟨aw,ax,ay,a2,a3,a4⟩:=cell3 D;obtain⟨ak,al,am,an,ao,ap⟩:=cell3 J))
 refine bodyPost_ret (results_cell_row rfl _ _ X 24 #[.int .i64 I,.int .i64 O,.slice af U.length ai] (0,0) _ rfl (by refine bkR ?_;refine blk_put (cs:= #[.int .i64 I,.int .i64 O,.slice none 0 0]) ?_ 2 _ rfl;refine bkR ?_;refine blk_put (cs:= #[.int .i64 I,.int .i64 0,.slice none 0 0]) ?_ 1 _ rfl;refine bkR ?_;refine blk_put (cs:= #[.int .i64 0,.int .i64 0,.slice none 0 0]) ?_ 0 _ rfl;refine bkR ?_;refine blk_far ?_ L.out _;refine bkR ?_;exact J.out) Tryd.underlying24 rfl zb) rfl ?_;exact⟨_,rfE,by(with_reducible repeat(first|apply Kd.R_alloc|apply Kd.R_drewN|apply Kd.R_drew));exact Kd.R_mono (Kd.R_far (p:=⟨X,2,none⟩) (Kd.R_far (p:=⟨X,1,none⟩) (Kd.R_far (p:=⟨X,0,none⟩) (Kd.R_far (p:=⟨aj,2,none⟩) (Kd.R_types (Kd.R_types ab.out D.out zc) J.out zc) (fun _ hk=>hk.1.2) (.slice af U.length ai)) (fun _ hk=>hk.2) (.int .i64 I)) (fun _ hk=>hk.2) (.int .i64 O)) (fun _ hk=>hk.2) (.slice af U.length ai)) (fun _ hk=>trivial),hbA HB.out⟩
mutual
def recoupref01_Mul.l0:Nat→Int→Int→Int→Int→Option (Int)
 |0,_,_,_,_=>none
 |k+1,x0,x1,x5,x6=>if x6<8 then(if 0≤(IntKind.u64.wrap (x6))then(if(Go.bits .and .u8 (shr .u8 x1 (IntKind.u64.wrap (x6))) 1)=1 then(recoupref01_Mul.l0 k x0 x1 (Go.bits .xor .i64 x5 (shl .i64 (wrap64 (x0)) (IntKind.u64.wrap (x6)))) (wrap64 (x6+1)))else(recoupref01_Mul.l0 k x0 x1 x5 (wrap64 (x6+1))))else(none))else(recoupref01_Mul.l1 k x5 14)
def recoupref01_Mul.l1:Nat→Int→Int→Option (Int)
 |0,_,_=>none
 |k+1,x5,x7=>if x7≥8 then(if 0≤(IntKind.u64.wrap (x7))then(if(Go.bits .and .i64 (shr .i64 x5 (IntKind.u64.wrap (x7))) 1)=1 then(if 0≤(IntKind.u64.wrap (wrap64 (x7-8)))then(recoupref01_Mul.l1 k (Go.bits .xor .i64 x5 (shl .i64 285 (IntKind.u64.wrap (wrap64 (x7-8))))) (wrap64 (x7-1)))else(none))else(recoupref01_Mul.l1 k x5 (wrap64 (x7-1))))else(none))else(some ((x5) % 256))
end
def recoupref01_Mul.f(k:Nat)(a0:Int)(a1:Int):Option (Int):=recoupref01_Mul.l0 k a0 a1 0 0
set_option maxHeartbeats 8000000 in
set_option maxRecDepth 100000 in
theorem recoupref01_Mul.calls(k:Nat)(a0:Int)(a1:Int)(r:Int)(w:World)(h:recoupref01_Mul.f k a0 a1=some r):
 Calls Tryd.prog 62 #[.int .u8 a0,.int .u8 a1] w fun e w'=>e= .returned (.int .u8 r)∧Drawn0 w w':=by
 have H:(recoupref01_Mul.l0 k a0 a1 0 0)=some r:=h;clear h;have H':=aK H;clear H
 go_enter Tryd.func62,Tryd.ntmps62
 go_wp2
 go_loopg [5,6] k (fun kq v5 v6 w'=> ∃(O:Int) (I:Int),v5= .int .i64 O∧v6= .int .i64 I∧Aside0 (recoupref01_Mul.l0 kq a0 a1 O I=some r)∧Aside0 (kq≤k)∧Drawn0 w w')
 case atStart=>exact⟨(0),(0),rsE,rsE,H',⟨Nat.le_refl _⟩,by repeat(first|exact Drawn0.refl _|apply Drawn0.step)⟩
 case round=>
  clear H'
  (try clear p2)
  obtain⟨O,I,rfl,rfl,HA,ab,⟨m1,rfl⟩⟩:=hrel
  cases gk with
  |zero=>exact absurd HA.out (by simp[recoupref01_Mul.l0])
  |succ k1=>
   have H:=HA.out;clear HA;simp only[recoupref01_Mul.l0]at H;by_cases c3:I<8
   ·rw[if_pos c3]at H
    have c3b0:decide (I<8)=true:=decide_eq_true c3;clear c3;obtain⟨J,ao⟩: ∃j_:Int,(IntKind.u64.wrap (I))=j_:=⟨_,rfl⟩
    replace H:(if 0≤(J)then(if(Go.bits .and .u8 (shr .u8 a1 (J)) 1)=1 then(recoupref01_Mul.l0 k1 a0 a1 (Go.bits .xor .i64 O (shl .i64 (wrap64 (a0)) (J))) (wrap64 (I+1)))else(recoupref01_Mul.l0 k1 a0 a1 O (wrap64 (I+1))))else(none))=some r:=by first|(rw[ao]at H;exact H)|(simp only[ao]at H⊢;exact H)
    by_cases c5:0≤(J)
    ·rw[if_pos c5]at H
     have c5b0:=eq_true c5;have c5b1:decide (0≤(J))=true:=decide_eq_true c5;clear c5;obtain⟨ae,ag⟩: ∃j_:Int,(shr .u8 a1 (J))=j_:=⟨_,rfl⟩
     replace H:(if(Go.bits .and .u8 (ae) 1)=1 then(recoupref01_Mul.l0 k1 a0 a1 (Go.bits .xor .i64 O (shl .i64 (wrap64 (a0)) (J))) (wrap64 (I+1)))else(recoupref01_Mul.l0 k1 a0 a1 O (wrap64 (I+1))))=some r:=by first|(rw[ag]at H;exact H)|(simp only[ag]at H⊢;exact H)
     have hji6_:(a1 / 2^min (J).toNat 8)=ae:=ag;have hji6z:(J)≤8→(a1 / 2^(J).toNat)=ae:=shr_small ag;by_cases c7:(Go.bits .and .u8 (ae) 1)=1
     ·rw[if_pos c7]at H
      have c7b0:((Go.bits .and .u8 (ae) 1)==1)=true:=beq_iff_eq.mpr c7;have c7b1:((Go.bits .and .u8 (ae) 1)!=1)=false:=bne_eq_false_iff_eq.mpr c7;clear c7;have c8b0:=eq_true (of_decide_eq_true asE:0≤(J));obtain⟨ai,ac⟩: ∃j_:Int,(shl .i64 (wrap64 (a0)) (J))=j_:=⟨_,rfl⟩
      replace H:(recoupref01_Mul.l0 k1 a0 a1 (Go.bits .xor .i64 O (ai)) (wrap64 (I+1)))=some r:=by first|(rw[ac]at H;exact H)|(simp only[ac]at H⊢;exact H)
      have hji9_:(IntKind.i64.wrap ((wrap64 (a0))*2^min (J).toNat 64))=ai:=ac;have hji9z:(J)≤64→(IntKind.i64.wrap ((wrap64 (a0))*2^(J).toNat))=ai:=shl_small ac;have hji9y:(wrap64 ((wrap64 (a0))*2^min (J).toNat 64))=ai:=(i64_w _).symm.trans hji9_;have hji9x:(J)≤64→(wrap64 ((wrap64 (a0))*2^(J).toNat))=ai:=fun h_=>(i64_w _).symm.trans (hji9z h_);have H':=aK H;clear H;go_wp2
      go_roundg k1
      case measure=>have:=ab.out;omega
      case rel=>exact⟨(Go.bits .xor .i64 O (ai)),(wrap64 (I+1)),(by first|rfl|(simp;done)|(simp only[←ac]<;>(first|rfl|simp))|(simp[*];done)),rsE,H',⟨by have:=ab.out;omega⟩,by repeat(first|exact Drawn0.refl _|apply Drawn0.step)⟩
     ·rw[if_neg c7]at H
      have c7b0:((Go.bits .and .u8 (ae) 1)==1)=false:=beq_eq_false_iff_ne.mpr c7;have c7b1:((Go.bits .and .u8 (ae) 1)!=1)=true:=bne_iff_ne.mpr c7;have H':=aK H;clear H;go_wp2
      go_roundg k1
      case measure=>have:=ab.out;omega
      case rel=>exact⟨(O),(wrap64 (I+1)),rsE,rsE,H',⟨by have:=ab.out;omega⟩,by repeat(first|exact Drawn0.refl _|apply Drawn0.step)⟩
    ·rw[if_neg c5]at H
     exact absurd H zd
   ·rw[if_neg c3]at H
    have c3b0:decide (I<8)=false:=decide_eq_false c3;clear c3;have H':=aK H;clear H;go_wp2
    go_loopg [5,7] k1 (fun kq v5 v7 w'=> ∃(G:Int) (D:Int),v5= .int .i64 G∧v7= .int .i64 D∧Aside0 (recoupref01_Mul.l1 kq G D=some r)∧Aside0 (kq≤k1)∧Drawn0 w w')
    case atStart=>exact⟨(O),(14),rsE,rsE,H',⟨Nat.le_refl _⟩,by repeat(first|exact Drawn0.refl _|apply Drawn0.step)⟩
    case round=>
     clear H'
     (try clear p2 p2);(try clear c3);(try clear c3b0);(try clear c5);(try clear c5b0);(try clear c5b1);(try clear c6);(try clear p6);(try clear c7);(try clear c7b0);(try clear c7b1);(try clear c8);(try clear c8b0)
     obtain⟨G,D,rfl,rfl,HA,an,⟨m2,rfl⟩⟩:=hrel
     cases gk with
     |zero=>exact absurd HA.out (by simp[recoupref01_Mul.l1])
     |succ k2=>
      have H:=HA.out;clear HA;simp only[recoupref01_Mul.l1]at H;by_cases ah:D≥8
      ·rw[if_pos ah]at H
       have c10b0:decide (8≤D)=true:=decide_eq_true ah;clear ah;obtain⟨U,al⟩: ∃j_:Int,(IntKind.u64.wrap (D))=j_:=⟨_,rfl⟩
       replace H:(if 0≤(U)then(if(Go.bits .and .i64 (shr .i64 G (U)) 1)=1 then(if 0≤(IntKind.u64.wrap (wrap64 (D-8)))then(recoupref01_Mul.l1 k2 (Go.bits .xor .i64 G (shl .i64 285 (IntKind.u64.wrap (wrap64 (D-8))))) (wrap64 (D-1)))else(none))else(recoupref01_Mul.l1 k2 G (wrap64 (D-1))))else(none))=some r:=by first|(rw[al]at H;exact H)|(simp only[al]at H⊢;exact H)
       by_cases aj:0≤(U)
       ·rw[if_pos aj]at H
        have c12b0:=eq_true aj;have c12b1:decide (0≤(U))=true:=decide_eq_true aj;clear aj;obtain⟨X,aa⟩: ∃j_:Int,(shr .i64 G (U))=j_:=⟨_,rfl⟩
        replace H:(if(Go.bits .and .i64 (X) 1)=1 then(if 0≤(IntKind.u64.wrap (wrap64 (D-8)))then(recoupref01_Mul.l1 k2 (Go.bits .xor .i64 G (shl .i64 285 (IntKind.u64.wrap (wrap64 (D-8))))) (wrap64 (D-1)))else(none))else(recoupref01_Mul.l1 k2 G (wrap64 (D-1))))=some r:=by first|(rw[aa]at H;exact H)|(simp only[aa]at H⊢;exact H)
        have hji13_:(G / 2^min (U).toNat 64)=X:=aa;have hji13z:(U)≤64→(G / 2^(U).toNat)=X:=shr_small aa;by_cases af:(Go.bits .and .i64 (X) 1)=1
        ·rw[if_pos af]at H
         have c14b0:((Go.bits .and .i64 (X) 1)==1)=true:=beq_iff_eq.mpr af;have c14b1:((Go.bits .and .i64 (X) 1)!=1)=false:=bne_eq_false_iff_eq.mpr af;clear af;obtain⟨L,am⟩: ∃j_:Int,(IntKind.u64.wrap (wrap64 (D-8)))=j_:=⟨_,rfl⟩
         replace H:(if 0≤(L)then(recoupref01_Mul.l1 k2 (Go.bits .xor .i64 G (shl .i64 285 (L))) (wrap64 (D-1)))else(none))=some r:=by first|(rw[am]at H;exact H)|(simp only[am]at H⊢;exact H)
         by_cases ak:0≤(L)
         ·rw[if_pos ak]at H
          have c16b0:=eq_true ak;have c16b1:decide (0≤(L))=true:=decide_eq_true ak;clear ak;obtain⟨Z,Y⟩: ∃j_:Int,(shl .i64 285 (L))=j_:=⟨_,rfl⟩
          replace H:(recoupref01_Mul.l1 k2 (Go.bits .xor .i64 G (Z)) (wrap64 (D-1)))=some r:=by first|(rw[Y]at H;exact H)|(simp only[Y]at H⊢;exact H)
          have hji17_:(IntKind.i64.wrap (285*2^min (L).toNat 64))=Z:=Y;have hji17z:(L)≤64→(IntKind.i64.wrap (285*2^(L).toNat))=Z:=shl_small Y;have hji17y:(wrap64 (285*2^min (L).toNat 64))=Z:=(i64_w _).symm.trans hji17_;have hji17x:(L)≤64→(wrap64 (285*2^(L).toNat))=Z:=fun h_=>(i64_w _).symm.trans (hji17z h_);have H':=aK H;clear H;go_wp2
          go_roundg k2
          case measure=>have:=ab.out;have:=an.out;omega
          case rel=>exact⟨(Go.bits .xor .i64 G (Z)),(wrap64 (D-1)),(by first|rfl|(simp;done)|(simp only[←Y]<;>(first|rfl|simp))|(simp[*];done)),rsE,H',⟨by have:=ab.out;have:=an.out;omega⟩,by repeat(first|exact Drawn0.refl _|apply Drawn0.step)⟩
         ·rw[if_neg ak]at H
          exact absurd H zd
        ·rw[if_neg af]at H
         have c14b0:((Go.bits .and .i64 (X) 1)==1)=false:=beq_eq_false_iff_ne.mpr af;have c14b1:((Go.bits .and .i64 (X) 1)!=1)=true:=bne_iff_ne.mpr af;have H':=aK H;clear H;go_wp2
         go_roundg k2
         case measure=>have:=ab.out;have:=an.out;omega
         case rel=>exact⟨(G),(wrap64 (D-1)),rsE,rsE,H',⟨by have:=ab.out;have:=an.out;omega⟩,by repeat(first|exact Drawn0.refl _|apply Drawn0.step)⟩
       ·rw[if_neg aj]at H
        exact absurd H zd
      ·rw[if_neg ah]at H
       have c10b0:decide (8≤D)=false:=decide_eq_false ah;clear ah;obtain rfl:=Option.some.inj H;go_wp2
       go_ret
       exact⟨by first|rfl|(simp;done)|(simp[*];done),by repeat(first|exact Drawn0.refl _|apply Drawn0.step)⟩
end Go.Proofs.YtkagobkedifhkaaDoor.Q
namespace Go.Proofs.YtkagobkedifhkaaDoor.Q
open Go.RowKit Go.Proofs.YtkagobkedifhkaaDoorW.PrintWords Go.Proofs.YtkagobkedifhkaaDoorW.PrintLast Go.Proofs.YtkagobkedifhkaaDoorW.PrintMore
attribute [local go_sem] max2_int min2_int max_two min_two max_three min_three max_four min_four
set_option linter.unusedVariables false
set_option linter.unusedSimpArgs false
def recoupref01_Inv.l0:Nat→Int→Int→Option (Int×Int)
 |0,_,_=>none
 |k+1,x0,x4=>if x4<256 then((recoupref01_Mul.f k x0 ((x4) % 256)).bind fun D=>(if D=1 then(some ((x4) % 256,0))else(recoupref01_Inv.l0 k x0 (wrap64 (x4+1)))))else(some (0,5))
def recoupref01_Inv.f(k:Nat)(a0:Int):Option (Int×Int):=recoupref01_Inv.l0 k a0 1
set_option maxHeartbeats 8000000 in
set_option maxRecDepth 100000 in
theorem recoupref01_Inv.calls(k:Nat)(a0:Int)(r1:Int)(r2:Int)(w:World)(h:recoupref01_Inv.f k a0=some (r1,r2)):
 Calls Tryd.prog 60 #[.int .u8 a0] w fun e w'=>e= .returned (.tuple #[.int .u8 r1,.int .i64 r2])∧Drawn0 w w':=by
 have H:(recoupref01_Inv.l0 k a0 1)=some (r1,r2):=h;clear h;have H':=aK H;clear H
 go_enter Tryd.func60,Tryd.ntmps60
 go_wp2
 go_loopg [4] k (fun kq v4 w'=> ∃(D:Int),v4= .int .i64 D∧Aside0 (recoupref01_Inv.l0 kq a0 D=some (r1,r2))∧Aside0 (kq≤k)∧Drawn0 w w')
 case atStart=>exact⟨(1),rsE,H',⟨Nat.le_refl _⟩,by repeat(first|exact Drawn0.refl _|apply Drawn0.step)⟩
 case round=>
  clear H';obtain⟨D,rfl,HA,I,⟨m1,rfl⟩⟩:=hrel
  cases gk with
  |zero=>exact absurd HA.out (by simp[recoupref01_Inv.l0])
  |succ k1=>
   have H:=HA.out;clear HA;simp only[recoupref01_Inv.l0]at H;by_cases c2:D<256
   ·rw[if_pos c2]at H
    have c2b0:decide (D<256)=true:=decide_eq_true c2;clear c2;obtain⟨G,A3,H⟩:=bindO H
    (try dsimp only at H)
    by_cases c4:G=1
    ·rw[if_pos c4]at H
     have c4b0:(G==1)=true:=beq_iff_eq.mpr c4;have c4b1:(G !=1)=false:=bne_eq_false_iff_eq.mpr c4;clear c4;simp only[Option.some.injEq,Prod.mk.injEq]at H;obtain⟨rfl,rfl⟩:=H
     go_wp2_with (first|((with_reducible refine gC 62 rfl ?_);refine cG (some 12) Tryd.func62 #[.int .u8 a0,.int .u8 ((D) % 256)] ?_;(with_reducible refine(recoupref01_Mul.calls k1 a0 ((D) % 256) G _ A3.out).mono ?_);rintro e w' ⟨rfl,⟨nd,rfl⟩⟩;refine⟨_,rfl,?_⟩))
     go_ret2
     exact⟨by first|rfl|(simp;done)|(simp[*];done),by repeat(first|exact Drawn0.refl _|apply Drawn0.step)⟩
    ·rw[if_neg c4]at H
     have c4b0:(G==1)=false:=beq_eq_false_iff_ne.mpr c4;have c4b1:(G !=1)=true:=bne_iff_ne.mpr c4;have H':=aK H;clear H
     go_wp2_with (first|((with_reducible refine gC 62 rfl ?_);refine cG (some 12) Tryd.func62 #[.int .u8 a0,.int .u8 ((D) % 256)] ?_;(with_reducible refine(recoupref01_Mul.calls k1 a0 ((D) % 256) G _ A3.out).mono ?_);rintro e w' ⟨rfl,⟨nd,rfl⟩⟩;refine⟨_,rfl,?_⟩))
     go_roundg k1
     case measure=>have:=I.out;omega
     case rel=>exact⟨(wrap64 (D+1)),rsE,H',⟨by have:=I.out;omega⟩,by repeat(first|exact Drawn0.refl _|apply Drawn0.step)⟩
   ·rw[if_neg c2]at H
    have c2b0:decide (D<256)=false:=decide_eq_false c2;clear c2;simp only[Option.some.injEq,Prod.mk.injEq]at H;obtain⟨rfl,rfl⟩:=H;go_wp2
    go_ret2
    exact⟨by first|rfl|(simp;done)|(simp[*];done),by repeat(first|exact Drawn0.refl _|apply Drawn0.step)⟩
def recoupref01_Scale.l0:Nat→Int→List Int→List Int→Int→Option (List Int)
 |0,_,_,_,_=>none
 |k+1,x0,x1,x5,x6=>if x6<(x1.length:Int)then(if 0≤x6 then((recoupref01_Mul.f k x0 (rd x1 x6)).bind fun D=>(if x5.length<140737488355328 then(recoupref01_Scale.l0 k x0 x1 (x5++ [D]) (wrap64 (x6+1)))else(none)))else(none))else(some x5)
def recoupref01_Scale.f(k:Nat)(a0:Int)(l1:List Int):Option (List Int):=recoupref01_Scale.l0 k a0 l1 ([]:List Int) 0
set_option maxHeartbeats 8000000 in
set_option maxRecDepth 100000 in
theorem recoupref01_Scale.calls(k:Nat)(a0:Int)(A1:Option Addr)(c1:Nat)(l1:List Int)(r:List Int)(w:World)(af:Kd.C (Kd.int .u8) w A1 l1.length l1)(ae:l1.length≤c1)(h:recoupref01_Scale.f k a0 l1=some r):
 Calls Tryd.prog 61 #[.int .u8 a0,.slice A1 l1.length c1] w fun e w'=> ∃v0_:Value,e= .returned (v0_)∧Kd.R (Kd.int .u8) 5 w' w.heap.size (fun _=>True) v0_ r∧Below w.heap.size w w':=by
 have ag:=aK af;have aj:=aK ae;clear af ae;have HB:=aK (Below.refl w.heap.size w);have H:(recoupref01_Scale.l0 k a0 l1 ([]:List Int) 0)=some r:=h;clear h;have H':=aK H;clear H
 go_enter Tryd.func61,Tryd.ntmps61
 go_wp2
 go_loopg [5,6] k (fun kq v5 v6 w'=> ∃(J:List Int) (D:Int),v6= .int .i64 D∧Aside0 (recoupref01_Scale.l0 kq a0 l1 J D=some r)∧Aside0 (kq≤k)∧Aside0 (Kd.R (Kd.int .u8) 5 w' w.heap.size (fun _=>True) v5 J)∧Aside0 (Below w.heap.size w w'))
 case atStart=>exact⟨(([]:List Int)),(0),rsE,H',⟨Nat.le_refl _⟩,⟨nilE⟩,⟨hbA HB.out⟩⟩
 case round=>
  clear H'
  (try clear c1);(try clear p2)
  obtain⟨J,D,rfl,HA,aa,HO_5,HB⟩:=hrel
  cases gk with
  |zero=>exact absurd HA.out (by simp[recoupref01_Scale.l0])
  |succ k1=>
   have H:=HA.out;clear HA;simp only[recoupref01_Scale.l0]at H;by_cases c3:D<(l1.length:Int)
   ·rw[if_pos c3]at H
    have c3b0:decide (D<(l1.length:Int))=true:=decide_eq_true c3;clear c3;by_cases c4:0≤D
    ·rw[if_pos c4]at H
     have c4b0:decide (0≤D)=true:=decide_eq_true c4;clear c4;obtain⟨L,A5,H⟩:=bindO H
     (try dsimp only at H)
     by_cases c6:J.length<140737488355328
     ·rw[if_pos c6]at H
      have ab:=aK c6;clear c6;obtain⟨X,I⟩: ∃y_:List Int,y_=(J++ [L]):=⟨_,rfl⟩
      replace H:(recoupref01_Scale.l0 k1 a0 l1 X (wrap64 (D+1)))=some r:=by first|(rw[I];with_reducible exact H)|(have H2_:=(Option.bind_some _ _).symm.trans H;rw[I];with_reducible exact H2_)|(have H2_:=(Option.bind_some _ _).symm.trans H;with_reducible exact H2_)|with_reducible exact H|(rw[I];exact H)|exact H
      have Z:=aK I;clear I;have H':=aK H;clear H;have O:0≤(D:Int):=of_decide_eq_true asE;have U:D<(l1.length:Int):=of_decide_eq_true asE;obtain⟨ah,ac,G⟩:=Kd.at_int ag.out D O U
      cases ac
      replace G:=(HB.out.cell (World.block_lt_of_cell? w _ G)).trans G;replace O:=eq_true O;replace U:=eq_true U
      go_wp2_with (first|((with_reducible refine gC 62 rfl ?_);refine cG (some 19) Tryd.func62 #[.int .u8 a0,.int .u8 (rd l1 D)] ?_;(with_reducible refine(recoupref01_Mul.calls k1 a0 (rd l1 D) L _ A5.out).mono ?_);rintro e w' ⟨rfl,⟨nd,rfl⟩⟩;refine⟨_,rfl,?_⟩)|((with_reducible refine gate_builtin (b:= .append) (xs:= #[.tmp 13,.tmp 20]) rfl ?_);at_builtin;refine Kd.R_append (Kd.int .u8) (w0:=w) w.heap.size rfl (.tmp 13) (.tmp 20) 22 5 (.int .u8 0) 1 rfl Tryd.underlying22 info5 rfl zc za u5 J L [.int .u8 L] (fun _=>True) (fun _=>False) rfl rfl ?aP (fun _ hk=>hk.elim) ?aF ?aO ?aB ?aS ?aL ?_;(case aP=>exact rfl);(case aB=>exact(hbA HB.out));(case aF=>exact(fun _ _=>trivial));(case aO=>exact(kdA HO_5.out));(case aS=>exact(below_size (hbA HB.out)));(case aL=>have:=ab.out;omega);intro ai w7 ho hb hg hat;rw[←Z.out]at ho;have n0_:=aK (hb);have n1_:=aK (ho);clear HB;clear HO_5;have HB:=n0_;have Y:=n1_;clear n0_ n1_;clear ho hb hg hat))
      go_roundg k1
      case measure=>have:=aa.out;omega
      case rel=>exact⟨(X),(wrap64 (D+1)),rsE,H',⟨by have:=aa.out;omega⟩,⟨kdA Y.out⟩,⟨hbA HB.out⟩⟩
     ·rw[if_neg c6]at H
      exact absurd H zd
    ·rw[if_neg c4]at H
     exact absurd H zd
   ·rw[if_neg c3]at H
    have c3b0:decide (D<(l1.length:Int))=false:=decide_eq_false c3;clear c3;obtain rfl:=Option.some.inj H;go_wp2
    go_ret
    exact⟨_,rfE,by(with_reducible repeat(first|apply Kd.R_alloc|apply Kd.R_drewN|apply Kd.R_drew));exact HO_5.out,hbA HB.out⟩
end Go.Proofs.YtkagobkedifhkaaDoor.Q
