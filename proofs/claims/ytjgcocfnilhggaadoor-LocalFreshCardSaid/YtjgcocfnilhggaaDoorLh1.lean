/- Texts of the proof of LocalFresh: what each Go function answers, and what the answers mean; no condition beyond each theorem's own. -/
import Derived.Below
import Derived.Deep.Draws
import Derived.Deep.AppendLies
import Derived.Maps.AppendAt
import Derived.OwnWalk
import Derived.Laws.BytesArg
import Derived.Laws.MakeOwn
import Derived.Laws.OwnMore
import Derived.Deep.OwnRows
import Derived.Tactics
import Derived.Lib.ConvBytes
import Derived.Laws.Slices
import Derived.WalkKit
import Derived.KernelRfl
import Derived.RowKit3
import Derived.Deep.LoopGhost
import Derived.Deep.QuietTactic
import Derived.BigQuiet
import Derived.WideLaws
import Derived.Deep.DeepCutAuto
import Derived.Deep.CutBlock
import Derived.Deep.RegionHeld3
import Derived.Laws.Rows
import Derived.Lib.AppendStr
import Derived.ArgAppend
import Derived.Laws.IdiomCopy
import Derived.RowKit
import Derived.OrdersHeld
import Derived.Laws.BitsLemmas
import Derived.Laws.StructEq
import Derived.SizedLaws
import Derived.ChangeSlices
import Derived.OwnWalkIn
import Derived.TacticsInMore
import Derived.Test.YtjgcocfnilhggaaDoorShelf
import Derived.Test.YtjgcocfnilhggaaDoorProg
import Derived.Shelf.Spec.TrailingZeros
import Derived.Deep.WholeRow
import Derived.Laws.NewBlocks
import Derived.Laws.CopyOwn
import Derived.ScopeJumps
import Derived.WalkMore
import Derived.WalkSpells
set_option maxHeartbeats 16000000
set_option maxRecDepth 100000
set_option linter.unusedVariables false
set_option linter.unusedSimpArgs false
namespace Go.Proofs.YtjgcocfnilhggaaDoorW.PrintWords
open RowKit
structure Aside0 (p:Prop):Prop where mk::(out:p)
structure Drawn0 (w w':World):Prop where mk::(out: ∃n,w'=w.drewN n)
theorem Drawn0.refl(w:World):Drawn0 w w:=⟨⟨0,rfl⟩⟩
theorem Drawn0.step{w w':World}(h:Drawn0 w w')(n:Nat):Drawn0 w (w'.drewN n):=by
 obtain⟨m,rfl⟩:=h;exact⟨⟨m+n,World.drewN_drewN ..⟩⟩
def rd(xs:List Int)(i:Int):Int:=xs.getD i.toNat 0
def nums(k:IntKind)(xs:List Int):List Value:=xs.map fun x=> .int k x
theorem below_alloc{w W:World}(h:Below w.heap.size w W)(o:Obj):Below w.heap.size w (W.alloc o):=h.alloc h.size o
theorem below_drew{B:Nat}{w W:World}(h:Below B w W):Below B w W.drew:=⟨h.os,h.tape,h.output,h.size,h.block⟩
theorem pw_below_drewN{B:Nat}{w W:World}(h:Below B w W)(n:Nat):Below B w (W.drewN n):=⟨h.os,h.tape,h.output,h.size,h.block⟩
theorem below_then{B:Nat}{w w1 w2:World}(h:Below B w w1)(hB:B<=w1.heap.size)(k:Below w1.heap.size w1 w2):Below B w w2:=
 h.trans ⟨k.os,k.tape,k.output,k.size,fun i hi=>k.block i (Nat.lt_of_lt_of_le hi hB)⟩
theorem grown_of_below{w w1:World}(h:Below w.heap.size w w1)(row:Option Nat):w.grownBy w1 row:=⟨h.os,h.tape,h.output,h.size,fun i hi _=>h.block i hi⟩
theorem pw_cell_below{w w1:World}(h:Below w.heap.size w w1){a:Addr}{v:Value}(hc:w.cell? a=some v):w1.cell? a=some v:=(h.cell (World.block_lt_of_cell? w a hc)).trans hc
theorem add_plain(g j:Nat):(⟨g,0,none⟩:Addr).add j=⟨g,j,none⟩:=by unfold Addr.add;split<;>simp_all
def ReadsInt(w:World)(k:IntKind)(A:Option Addr)(n:Nat)(xs:List Int):Prop:=
 xs.length=n/\n<=9223372036854775807/\(0<n-> ∃ad,A=some ad/\ ∀j,j<n->w.cell? (ad.add j)=some (.int k (xs.getD j 0)))
theorem ReadsInt.at_{w:World}{k:IntKind}{A:Option Addr}{n:Nat}{xs:List Int}(h:ReadsInt w k A n xs)(i:Int)(h0:0<=i)(h1:i<n): ∃ad,A=some ad/\w.cell? (ad.add i.toNat)=some (.int k (rd xs i)):=by
 obtain⟨ad,e,hc⟩:=h.2.2 (by omega);exact⟨ad,e,hc _ (by omega)⟩
theorem own_nil(W:World)(base:Nat)(e:TypeId)(size:Nat):W.ownsRow base e size (.slice none 0 0) 0 []:=⟨by simp,.inl ⟨rfl,rfl⟩⟩
theorem own_base{w:World}{base:Nat}{e:TypeId}{size n:Nat}{v:Value}{xs:List Value}(h:w.ownsRow base e size v n xs)(k:Nat)(hk:v.ownBlock=some k):base<=k:=by
 rcases h.2 with⟨rfl,_⟩|⟨g,cap,cur,rfl,hb,_⟩
 ·simp[Value.ownBlock]at hk
 ·have:g=k:=by simpa[Value.ownBlock]using hk
  omega
theorem own_lt{w:World}{base:Nat}{e:TypeId}{size n:Nat}{v:Value}{xs:List Value}(h:w.ownsRow base e size v n xs)(k:Nat)(hk:v.ownBlock=some k):k<w.heap.size:=by
 rcases h.2 with⟨rfl,_⟩|⟨g,cap,cur,rfl,hb,hh,_⟩
 ·simp[Value.ownBlock]at hk
 ·have:g=k:=by simpa[Value.ownBlock]using hk
  subst this;exact(Array.getElem?_eq_some_iff.1 hh).1
theorem pw_own_below{w w1:World}{base:Nat}{e:TypeId}{size n:Nat}{v:Value}{xs:List Value}(h:w.ownsRow base e size v n xs)(hb:Below w.heap.size w w1):w1.ownsRow base e size v n xs:=
 h.kept (grown_of_below hb none) (by cases v.ownBlock<;>simp)
section
variable {P:Program}
theorem print_make(t e:TypeId)(k:IntKind)(bytes:Nat)(ht:P.underlying t=some (.slice e))(hinfo:(P.info? e).map (fun i=>(i.zero,i.size,i.bytes))=some (some (.int k 0),1,bytes))(hb0:0<bytes)
 (m:Nat) (hn:m*bytes<=281474976710656):
 ∀W:World,(Instr.makeSlice t (.int .i64 (m:Int)) (.int .i64 (m:Int))).run P W= .ok (.slice (some ⟨W.heap.size,0,none⟩) m m) (W.alloc (.cells (madeCells #[.int k 0] m) e)):=by
 intro W;have hm:m<=281474976710656:=Nat.le_trans (Nat.le_mul_of_pos_right _ hb0) hn;exact run_make_row' t e (.int k 0) bytes ht hinfo rfl .i64 .i64 m (by rw[Nat.mul_comm];exact hn) (by omega) W
end
theorem own_made(W:World)(base:Nat)(e:TypeId)(k:IntKind)(m:Nat)(hb:base<=W.heap.size)(hm:m<=9223372036854775807):
 (W.alloc (.cells (madeCells #[.int k 0] m) e)).ownsRow base e 1 (.slice (some ⟨W.heap.size,0,none⟩) m m) m (nums k (List.replicate m 0)):=by
 have h:=World.ownsRow_lit (base:=base) (e:=e) (size:=1) W (madeCells #[.int k 0] m) m hb (by simpa[maxLen]using hm) (by simp[size_madeCells]);have hl:(madeCells #[Value.int k 0] m).toList=nums k (List.replicate m 0):=by
  apply List.ext_getElem
  ·simp[nums,madeCells]
  ·intro i h1 h2;simp[nums,madeCells,Nat.mod_one]
 rwa [hl]at h
theorem own_at{W:World}{base g n cap:Nat}{e:TypeId}{k:IntKind}{xs:List Int}(h:W.ownsRow base e 1 (.slice (some ⟨g,0,none⟩) n cap) n (nums k xs))(i:Int)(h0:0<=i)(h1:i<n):
 W.cell? ⟨g,i.toNat,none⟩=some (.int k (rd xs i))/\W.frozen? ⟨g,i.toNat,none⟩=false:=by
 have hl:xs.length=n:=by have:=h.1;simp[nums]at this;exact this
 constructor
 ·have hc:=h.cells (g:=g) rfl i.toNat (.int k (rd xs i)) (by simp[nums,rd,List.getElem?_eq_getElem (show i.toNat<xs.length by omega),List.getD_eq_getElem?_getD])
  rwa [add_plain]at hc
 ·rcases h.2 with⟨h',_⟩|⟨g',cap',cur,h',_,hh,_⟩
  ·cases h'
  ·have:g=g':=by injection h' with h';injection h' with h';injection h' with h'
   subst this;simp[World.frozen?,hh]
theorem own_store{W:World}{base g n cap:Nat}{e:TypeId}{k:IntKind}{xs:List Int}(h:W.ownsRow base e 1 (.slice (some ⟨g,0,none⟩) n cap) n (nums k xs))(i x:Int):
 (W.setCell ⟨g,i.toNat,none⟩ (.int k x)).ownsRow base e 1 (.slice (some ⟨g,0,none⟩) n cap) n (nums k (xs.set i.toNat x))/\W.grownBy (W.setCell ⟨g,i.toNat,none⟩ (.int k x)) (some g):=by
 have hs:=h.stored i.toNat (.int k x);have he:(nums k xs).set i.toNat (.int k x)=nums k (xs.set i.toNat x):=by simp[nums,List.map_set]
 rwa [he]at hs
theorem ReadsInt.take_{w:World}{k:IntKind}{A:Option Addr}{n:Nat}{xs:List Int}(h:ReadsInt w k A n xs)(i:Nat)(hi:i<=n):ReadsInt w k A i (xs.take i):=by
 refine⟨by rw[List.length_take,h.1];omega,by have:=h.2.1;omega,fun hp=>?_⟩;obtain⟨ad,e,hc⟩:=h.2.2 (by omega);refine⟨ad,e,fun j hj=>?_⟩;rw[hc j (by omega)];simp[List.getD_eq_getElem?_getD,hj]
def LeO{α:Type}(a b:Option α):Prop:= ∀r,a=some r->b=some r
theorem LeO.refl{α:Type}(a:Option α):LeO a a:=fun _ h=>h
theorem LeO.none{α:Type}(b:Option α):LeO Option.none b:=fun _ h=>by cases h
theorem LeO.trans{α:Type}{a b c:Option α}(h:LeO a b)(k:LeO b c):LeO a c:=fun r hr=>k r (h r hr)
theorem LeO.ite{α:Type}{c:Prop} [Decidable c]{a a' b b':Option α}(h:LeO a a')(k:LeO b b'):LeO (if c then a else b) (if c then a' else b'):=by
 split
 ·exact h
 ·exact k
theorem LeO.bind{α β:Type}{a a':Option α}{f f':α->Option β}(h:LeO a a')(k: ∀x,LeO (f x) (f' x)):LeO (a.bind f) (a'.bind f'):=by
 intro r hr;obtain⟨x,hx,hf⟩:=Option.bind_eq_some_iff.1 hr;exact Option.bind_eq_some_iff.2 ⟨x,h x hx,k x r hf⟩
theorem more_rounds{α:Type}{g:Nat->Option α}(h: ∀k,LeO (g k) (g (k+1)))(k:Nat): ∀j,LeO (g k) (g (k+j))
 |0=>LeO.refl _
 |j+1=>(more_rounds h k j).trans (h (k+j))
def Reps{α:Type}(R:α->List Value->Prop)(size:Nat)(ps:List α)(cs:List Value):Prop:=
 cs.length=ps.length*size/\ ∀j p,ps[j]? =some p->R p ((cs.drop (j*size)).take size)
theorem Reps.none{α:Type}(R:α->List Value->Prop)(size:Nat):Reps R size [] []:=⟨by simp,fun j p h=>by simp at h⟩
theorem Reps.snoc{α:Type}{R:α->List Value->Prop}{size:Nat}{ps:List α}{cs c:List Value}{p:α}(h:Reps R size ps cs)(hp:R p c)(hc:c.length=size):Reps R size (ps++ [p]) (cs++c):=by
 refine⟨by rw[List.length_append,h.1,hc,List.length_append,List.length_singleton,Nat.add_mul,Nat.one_mul],fun j q hq=>?_⟩;rcases Nat.lt_or_ge j ps.length with hj|hj
 ·rw[List.getElem?_append_left hj]at hq
  have h1:j*size+size<=cs.length:=by rw[h.1,<-Nat.succ_mul];exact Nat.mul_le_mul_right _ hj
  have h2:=h.2 j q hq;rw[List.drop_append_of_le_length (by omega),List.take_append_of_le_length (by rw[List.length_drop];omega)];exact h2
 ·have hj':j=ps.length:=by
   have:=(List.getElem?_eq_some_iff.1 hq).1;rw[List.length_append,List.length_singleton]at this
   omega
  subst hj';have hq':p=q:=by simpa using hq
  subst hq';rw[<-h.1,List.drop_left,<-hc,List.take_length];exact hp
theorem Reps.imp_{α:Type}{R R':α->List Value->Prop}{size:Nat}{ps:List α}{cs:List Value}(h:Reps R size ps cs)(hR: ∀p c,R p c->R' p c):Reps R' size ps cs:=⟨h.1,fun j p hj=>hR _ _ (h.2 j p hj)⟩
def ReadsRow{α:Type}(R:α->List Value->Prop)(size:Nat)(w:World)(A:Option Addr)(n:Nat)(ps:List α):Prop:=
 ps.length=n/\n<=9223372036854775807/\(0<n-> ∃ad,A=some ad/\ ∀j p,ps[j]? =some p-> ∃c,c.length=size/\R p c/\ ∀i u,c[i]? =some u->w.cell? (ad.add (j*size+i))=some u)
theorem ReadsRow.get_{α:Type}{R:α->List Value->Prop}{size:Nat}{w:World}{A:Option Addr}{n:Nat}{ps:List α}(h:ReadsRow R size w A n ps)(d:α)(i:Int)(h0:0<=i)(h1:i<n):
 ∃ad c,A=some ad/\c.length=size/\R (ps.getD i.toNat d) c/\ ∀j u,c[j]? =some u->w.cell? (ad.add (i.toNat*size+j))=some u:=by
 obtain⟨ad,e,hc⟩:=h.2.2 (by omega);have hl:i.toNat<ps.length:=by have:=h.1;omega
 obtain⟨c,hs,hr,hcell⟩:=hc i.toNat _ (List.getElem?_eq_getElem hl);refine⟨ad,c,e,hs,?_,hcell⟩;rw[List.getD_eq_getElem?_getD,List.getElem?_eq_getElem hl];exact hr
theorem ReadsRow.imp_{α:Type}{R R':α->List Value->Prop}{size:Nat}{w w1:World}{A:Option Addr}{n:Nat}{ps:List α}(h:ReadsRow R size w A n ps)(hb:Below w.heap.size w w1)(hR: ∀p c,R p c->R' p c):ReadsRow R' size w1 A n ps:=
 ⟨h.1,h.2.1,fun hn=>by
  obtain⟨ad,e,hc⟩:=h.2.2 hn;refine⟨ad,e,fun j p hj=>?_⟩;obtain⟨c,hs,hr,hcell⟩:=hc j p hj;exact⟨c,hs,hR _ _ hr,fun i u hu=>pw_cell_below hb (hcell i u hu)⟩⟩
theorem own_reads_row{α:Type}{R:α->List Value->Prop}{w:World}{base n size:Nat}{e:TypeId}{v:Value}{ps:List α}{cs:List Value}(h:w.ownsRow base e size v n cs)(hR:Reps R size ps cs)(hn:ps.length=n):
 ∃A c,v= .slice A n c/\ReadsRow R size w A n ps:=by
 rcases Nat.eq_zero_or_pos n with h0|h0
 ·rcases h.2 with⟨rfl,rfl⟩|⟨g,cap,cur,rfl,_⟩
  ·exact⟨none,0,rfl,hn,by omega,fun hp=>absurd hp (by omega)⟩
  ·exact⟨_,cap,rfl,hn,by omega,fun hp=>absurd hp (by omega)⟩
 ·obtain⟨g,cap,rfl,_,_⟩:=h.form h0;have hm:n<=9223372036854775807:=by
   rcases h.2 with⟨_,h1⟩|⟨g',cap',cur,he,_,_,h1,h2,_⟩
   ·omega
   ·simp only[maxLen]at h2;omega
  refine⟨_,cap,rfl,hn,hm,fun _=>⟨_,rfl,fun j p hj=>⟨(cs.drop (j*size)).take size,?_,hR.2 j p hj,fun i u hu=>?_⟩⟩⟩
  ·have hjl:=(List.getElem?_eq_some_iff.1 hj).1;have h1:j*size+size<=cs.length:=by rw[hR.1,<-Nat.succ_mul];exact Nat.mul_le_mul_right _ hjl
   rw[List.length_take,List.length_drop];omega
  ·refine h.cells (g:=g) rfl _ u ?_;rw[List.getElem?_take]at hu
   split at hu
   ·rw[List.getElem?_drop]at hu
    exact hu
   ·cases hu
section
variable {P:Program} {ops:Array Oper} {rest:List Oper} {o:Oper} {a:Act} {Q:Exit->Act->World->Prop}
theorem print_append_cells{w0 W:World}(base:Nat)(hgd:o.guard=none)(s x:Operand)(t e:TypeId)(z:Value)(size bytes:Nat)
 (ho:o.op= .call { callee:= .builtin .append,args:= #[s,x],argTypes:= #[t,t] })
 (ht:P.underlying t=some (.slice e)) (hinfo:(P.info? e).map (fun i=>(i.zero,i.size,i.bytes))=some (some z,size,bytes)) (hz:z.cells.size=size) (hs0:0<size) (hb0:0<bytes)
 (v:Value) (n:Nat) (xs ys:List Value) (hs:a.eval s=v) (hx:a.eval x= .slice (some ⟨W.heap.size,0,none⟩) 1 1) (hys:ys.length=size) (h1: ∀u∈ys,u.oneCell'=true)
 (HO:W.ownsRow base e size v n xs) (HB:Below base w0 W) (hbase:base<=W.heap.size) (hl:(n+1)*bytes<=140737488355328)
 (h: ∀v1 w1,w1.ownsRow base e size v1 (n+1) (xs++ys)->Below base w0 w1->W.grownBy w1 v.ownBlock->(v1.ownBlock=v.ownBlock∨ ∃b,v1.ownBlock=some b/\W.heap.size<=b)->wpList P ops Q rest (a.put o.dst v1) w1):
 wpList P ops Q (o::rest) a (W.alloc (.cells ys.toArray e)):=by
 obtain⟨i0,hi,hzz⟩:=Option.map_eq_some_iff.1 hinfo;simp only[Prod.mk.injEq]at hzz;obtain⟨hz0,hz1,hz2⟩:=hzz;have hlen:n+1<=140737488355328:=Nat.le_trans (Nat.le_mul_of_pos_right _ hb0) hl
 refine wpList_append_own_at (W.alloc (.cells ys.toArray e)) hgd s x t ho base e i0 z size bytes ht hi hz0 hz1 hz2 hz hs0 v n xs hs (HO.alloc _) ⟨W.heap.size,0,none⟩ 1 1 ys hx (by rw[hys];simp)
  (by simpa using World.news_of_block (cs:=ys.toArray) (t:=e) (fr:=(0,0)) (heap_alloc_new W (.cells ys.toArray e))) h1 (by simp only[maxLen];omega) hl (by simp;omega) ?_
 intro v1 w1 hown hg _ hat;refine h v1 w1 hown ((HB.alloc hbase _).grown hg (by simp;omega) (own_base HO)) (World.grownBy.trans (World.grownBy_alloc W _ _) hg) ?_;rcases hat with hat|hat
 ·exact .inl hat
 ·exact .inr ⟨_,hat,by simp⟩
end
theorem own_ne{w:World}{base:Nat}{e t:TypeId}{size n g:Nat}{v:Value}{xs:List Value}{cs:Array Value}(h:w.ownsRow base e size v n xs)(hg:w.heap[g]? =some (.cells cs t (0,0)))(hne:e≠t):some g≠v.ownBlock:=by
 rcases h.2 with⟨rfl,_⟩|⟨g',cap,cur,rfl,_,hh,_⟩
 ·simp[Value.ownBlock]
 ·intro he;have:g=g':=by simpa[Value.ownBlock]using he
  subst this;rw[hg]at hh
  injection hh with hh;injection hh with _ ht;exact hne ht.symm
theorem blk_set{w:World}{g:Nat}{t:TypeId}{cs:Array Value}(h:w.heap[g]? =some (.cells cs t (0,0)))(i:Nat)(u:Value):(w.setCell ⟨g,i,none⟩ u).heap[g]? =some (.cells (cs.setIfInBounds i u) t (0,0)):=by
 simp[World.setCell,Array.getElem?_modify,h]
theorem blk_far{w:World}{g:Nat}{t:TypeId}{cs:Array Value}(h:w.heap[g]? =some (.cells cs t (0,0))){p:Addr}(hp:g≠p.block)(u:Value):(w.setCell p u).heap[g]? =some (.cells cs t (0,0)):=(Below.heap_setCell w p u g hp).trans h
theorem blk_lt{w:World}{g:Nat}{o:Obj}(h:w.heap[g]? =some o):g<w.heap.size:=(Array.getElem?_eq_some_iff.1 h).1
theorem blk_cell{w:World}{g:Nat}{t:TypeId}{cs:Array Value}(h:w.heap[g]? =some (.cells cs t (0,0)))(i:Nat):w.cell? ⟨g,i,none⟩=cs[i]? :=cell_of_row w g i cs t (0,0) h
theorem blk_frozen{w:World}{g:Nat}{t:TypeId}{cs:Array Value}(h:w.heap[g]? =some (.cells cs t (0,0)))(i:Nat):w.frozen? ⟨g,i,none⟩=false:=by simp[World.frozen?,h]
theorem blk_grown{w w1:World}{g:Nat}{o:Obj}{row:Option Nat}(h:w.heap[g]? =some o)(hg:w.grownBy w1 row)(hne:some g≠row):w1.heap[g]? =some o:=(hg.block g (blk_lt h) hne).trans h
def KeepBut(w w':World)(g:Nat)(row:Option Nat):Prop:=w.heap.size<=w'.heap.size/\ ∀i,i<w.heap.size->i≠g->some i≠row->w'.heap[i]? =w.heap[i]?
theorem KeepBut.trans{w w1 w2:World}{g:Nat}{row row1:Option Nat}(h:KeepBut w w1 g row)(k:KeepBut w1 w2 g row1)(hr:row1=row∨ ∃b,row1=some b/\w.heap.size<=b):KeepBut w w2 g row:=
 ⟨Nat.le_trans h.1 k.1,fun i hi hg hn=>by
  refine(k.2 i (Nat.lt_of_lt_of_le hi h.1) hg ?_).trans (h.2 i hi hg hn);rcases hr with rfl|⟨b,rfl,hb⟩
  ·exact hn
  ·intro e;injection e with e;omega⟩
section
variable {P:Program} {ops:Array Oper} {o:Oper} {a:Act} {Q:Exit->Act->World->Prop} {K:Act->World->Prop}
theorem step_append_cells{w0 W:World}(base:Nat)(hw:Region.wanted o (yielded ops a.tmps)=true)(s x:Operand)(t e:TypeId)(z:Value)(size bytes:Nat)
 (ho:o.op= .call { callee:= .builtin .append,args:= #[s,x],argTypes:= #[t,t] })
 (ht:P.underlying t=some (.slice e)) (hinfo:(P.info? e).map (fun i=>(i.zero,i.size,i.bytes))=some (some z,size,bytes)) (hz:z.cells.size=size) (hs0:0<size) (hb0:0<bytes)
 (v:Value) (n:Nat) (xs ys:List Value) (hs:a.eval s=v) (hx:a.eval x= .slice (some ⟨W.heap.size,0,none⟩) 1 1) (hys:ys.length=size) (h1: ∀u∈ys,u.oneCell'=true)
 (HO:W.ownsRow base e size v n xs) (HB:Below base w0 W) (hbase:base<=W.heap.size) (hl:(n+1)*bytes<=140737488355328)
 (h: ∀v1 w1,w1.ownsRow base e size v1 (n+1) (xs++ys)->Below base w0 w1->W.grownBy w1 v.ownBlock->(v1.ownBlock=v.ownBlock∨ ∃b,v1.ownBlock=some b/\W.heap.size<=b)->K (a.put o.dst v1) w1):
 if Region.wanted o (yielded ops a.tmps)=true then Oper.wp P o a (W.alloc (.cells ys.toArray e)) K Q else K (a.put o.dst undef) (W.alloc (.cells ys.toArray e)):=by
 obtain⟨i0,hi,hzz⟩:=Option.map_eq_some_iff.1 hinfo;simp only[Prod.mk.injEq]at hzz;obtain⟨hz0,hz1,hz2⟩:=hzz;have hlen:n+1<=140737488355328:=Nat.le_trans (Nat.le_mul_of_pos_right _ hb0) hl;rw[if_pos hw]
 obtain⟨v1,w1,hr,hown,hg,_,hat⟩:=run_append_own_at (P:=P) (W.alloc (.cells ys.toArray e)) base t o.type e i0 z size bytes ht hi hz0 hz1 hz2 hz hs0 v n xs (HO.alloc _) ⟨W.heap.size,0,none⟩ 1 1 ys (by rw[hys];simp)
  (by simpa using World.news_of_block (cs:=ys.toArray) (t:=e) (fr:=(0,0)) (heap_alloc_new W (.cells ys.toArray e))) h1 (by simp only[maxLen];omega) hl (by simp;omega)
 unfold Oper.wp execOp;simp only[ho,resolve,invoke,builtin,Sem.run_bind,Sem.run_pure,Result.andThen_ok,List.map_toArray,List.map_cons,List.map_nil,hs,hx,hr];refine h v1 w1 hown ((HB.alloc hbase _).grown hg (by simp;omega) (own_base HO)) (World.grownBy.trans (World.grownBy_alloc W _ _) hg) ?_;rcases hat with hat|hat
 ·exact .inl hat
 ·exact .inr ⟨_,hat,by simp⟩
end
theorem own_weaken{w:World}{base base':Nat}{e:TypeId}{size n:Nat}{v:Value}{xs:List Value}(h:w.ownsRow base e size v n xs)(hb:base'<=base):w.ownsRow base' e size v n xs:=by
 obtain⟨h1,h2⟩:=h;refine⟨h1,?_⟩;rcases h2 with h2|⟨g,cap,cur,rfl,hg,r⟩
 ·exact .inl h2
 ·exact .inr ⟨g,cap,cur,rfl,Nat.le_trans hb hg,r⟩
section
variable {α:Type} {enc:α->Value} {d:α}
def encs(enc:α->Value)(xs:List α):List Value:=xs.map enc
def rdOf(d:α)(xs:List α)(i:Int):α:=xs.getD i.toNat d
theorem encs_length(xs:List α):(encs enc xs).length=xs.length:=by simp[encs]
theorem encs_get(xs:List α)(j:Nat)(h:j<xs.length):(encs enc xs)[j]? =some (enc (xs.getD j d)):=by
 simp[encs,List.getElem?_eq_getElem h,List.getD_eq_getElem?_getD]
def ReadsOf(enc:α->Value)(d:α)(w:World)(A:Option Addr)(n:Nat)(xs:List α):Prop:=
 xs.length=n/\n<=9223372036854775807/\(0<n-> ∃ad,A=some ad/\ ∀j,j<n->w.cell? (ad.add j)=some (enc (xs.getD j d)))
theorem ReadsOf.at_{w:World}{A:Option Addr}{n:Nat}{xs:List α}(h:ReadsOf enc d w A n xs)(i:Int)(h0:0<=i)(h1:i<n): ∃ad,A=some ad/\w.cell? (ad.add i.toNat)=some (enc (rdOf d xs i)):=by
 obtain⟨ad,e,hc⟩:=h.2.2 (by omega);exact⟨ad,e,hc _ (by omega)⟩
theorem ReadsOf.take_{w:World}{A:Option Addr}{n:Nat}{xs:List α}(h:ReadsOf enc d w A n xs)(i:Nat)(hi:i<=n):ReadsOf enc d w A i (xs.take i):=by
 refine⟨by rw[List.length_take,h.1];omega,by have:=h.2.1;omega,fun hp=>?_⟩;obtain⟨ad,e,hc⟩:=h.2.2 (by omega);refine⟨ad,e,fun j hj=>?_⟩;rw[hc j (by omega)];simp[List.getD_eq_getElem?_getD,hj]
theorem own_at_of{W:World}{base g n cap:Nat}{e:TypeId}{xs:List α}(h:W.ownsRow base e 1 (.slice (some ⟨g,0,none⟩) n cap) n (encs enc xs))(i:Int)(h0:0<=i)(h1:i<n):
 W.cell? ⟨g,i.toNat,none⟩=some (enc (rdOf d xs i))/\W.frozen? ⟨g,i.toNat,none⟩=false:=by
 have hl:xs.length=n:=by have:=h.1;simp[encs]at this;exact this
 constructor
 ·have hc:=h.cells (g:=g) rfl i.toNat _ (encs_get (d:=d) xs i.toNat (by omega))
  rwa [add_plain]at hc
 ·rcases h.2 with⟨h',_⟩|⟨g',cap',cur,h',_,hh,_⟩
  ·cases h'
  ·have:g=g':=by injection h' with h';injection h' with h';injection h' with h'
   subst this;simp[World.frozen?,hh]
theorem own_store_of{W:World}{base g n cap:Nat}{e:TypeId}{xs:List α}(h:W.ownsRow base e 1 (.slice (some ⟨g,0,none⟩) n cap) n (encs enc xs))(i:Int)(x:α):
 (W.setCell ⟨g,i.toNat,none⟩ (enc x)).ownsRow base e 1 (.slice (some ⟨g,0,none⟩) n cap) n (encs enc (xs.set i.toNat x))/\W.grownBy (W.setCell ⟨g,i.toNat,none⟩ (enc x)) (some g):=by
 have hs:=h.stored i.toNat (enc x);have he:(encs enc xs).set i.toNat (enc x)=encs enc (xs.set i.toNat x):=by simp[encs,List.map_set]
 rwa [he]at hs
end
theorem blk_alloc{w:World}{g:Nat}{o:Obj}(h:w.heap[g]? =some o)(o':Obj):(w.alloc o').heap[g]? =some o:=(Below.heap_alloc w o' g (blk_lt h)).trans h
theorem blk_drew{w:World}{g:Nat}{o:Obj}(h:w.heap[g]? =some o):w.drew.heap[g]? =some o:=h
theorem blk_drewN{w:World}{g:Nat}{o:Obj}(h:w.heap[g]? =some o)(n:Nat):(w.drewN n).heap[g]? =some o:=h
theorem blk_below{w w1:World}{g:Nat}{o:Obj}(h:w.heap[g]? =some o)(hb:Below w.heap.size w w1):w1.heap[g]? =some o:=(hb.block g (blk_lt h)).trans h
theorem blk_new(w:World)(o:Obj):(w.alloc o).heap[w.heap.size]? =some o:=heap_alloc_new w o
section
variable {P:Program}
theorem results_ct{fn:Func}{p u:Tmp}{ty:TypeId}(h:fn.results= #[.cell p ty,.tmp u])(tmps:Array Value)(w:World)(g:Nat)(t:TypeId)(cs:Array Value)(fr:Nat×Nat)(d:TypeDesc)
 (hp:tmps.getD p undef= .pointer (some ⟨g,0,none⟩)) (hg:w.heap[g]? =some (.cells cs t fr))
 (hu:P.underlying ty=some d) (hd:(match d with| .struct _| .array _ _=>true|_=>false)=true) (hi:(P.info? ty).map (·.size)=some cs.size):
 (results fn tmps).run P w= .ok (.tuple #[.agg cs,tmps.getD u undef]) w:=by
 have hp':tmps[p]?.getD undef= .pointer (some ⟨g,0,none⟩):=by simpa using hp
 simp[results,h,hp',asAddr,run_loadVar_row w g t ty cs fr d hg hu hd hi]
theorem results_ctt{fn:Func}{p u v:Tmp}{ty:TypeId}(h:fn.results= #[.cell p ty,.tmp u,.tmp v])(tmps:Array Value)(w:World)(g:Nat)(t:TypeId)(cs:Array Value)(fr:Nat×Nat)(d:TypeDesc)
 (hp:tmps.getD p undef= .pointer (some ⟨g,0,none⟩)) (hg:w.heap[g]? =some (.cells cs t fr))
 (hu:P.underlying ty=some d) (hd:(match d with| .struct _| .array _ _=>true|_=>false)=true) (hi:(P.info? ty).map (·.size)=some cs.size):
 (results fn tmps).run P w= .ok (.tuple #[.agg cs,tmps.getD u undef,tmps.getD v undef]) w:=by
 have hp':tmps[p]?.getD undef= .pointer (some ⟨g,0,none⟩):=by simpa using hp
 simp[results,h,hp',asAddr,run_loadVar_row w g t ty cs fr d hg hu hd hi]
end
theorem own_le{w:World}{base n m c size:Nat}{e:TypeId}{A:Option Addr}{xs:List Value}(h:w.ownsRow base e size (.slice A m c) n xs):m<=c:=by
 rcases h.2 with⟨he,_⟩|⟨g,cap,cur,he,_,_,hnc,_⟩
 ·injection he with _ h2 h3;omega
 ·injection he with _ h2 h3;omega
def OwnRow{α:Type}(R:α->List Value->Prop)(e:TypeId)(size:Nat)(w:World)(base:Nat)(v:Value)(ps:List α):Prop:=
 ∃inner,w.ownsRow base e size v ps.length inner/\Reps R size ps inner
section
variable {α:Type} {R R':α->List Value->Prop} {e:TypeId} {size:Nat} {w w1:World} {base:Nat} {v:Value} {ps:List α}
theorem OwnRow.none_(R:α->List Value->Prop)(e:TypeId)(size:Nat)(w:World)(base:Nat):OwnRow R e size w base (.slice none 0 0) []:=⟨[],own_nil _ _ _ _,Reps.none _ _⟩
theorem OwnRow.imp_(h:OwnRow R e size w base v ps)(hR: ∀p c,R p c->R' p c):OwnRow R' e size w base v ps:=by
 obtain⟨inner,ho,hr⟩:=h;exact⟨inner,ho,hr.imp_ hR⟩
theorem OwnRow.reads(h:OwnRow R e size w base v ps): ∃A c,v= .slice A ps.length c/\ps.length<=c/\ReadsRow R size w A ps.length ps:=by
 obtain⟨inner,ho,hr⟩:=h;obtain⟨A,c,rfl,hrow⟩:=own_reads_row ho hr rfl;exact⟨A,c,rfl,own_le ho,hrow⟩
theorem OwnRow.ne_block(h:OwnRow R e size w base v ps){g:Nat}{t:TypeId}{cells:Array Value}(hb:w.heap[g]? =some (.cells cells t (0,0)))(ht:e≠t):some g≠v.ownBlock:=by
 obtain⟨inner,ho,hr⟩:=h;exact own_ne ho hb ht
end
section
variable {P:Program} {ops:Array Oper} {rest:List Oper} {o:Oper} {a:Act} {Q:Exit->Act->World->Prop} {α:Type} {R:α->List Value->Prop}
end
theorem ReadsRow.inner_{α:Type}{R:α->List Value->Prop}{size:Nat}{w:World}{ad:Addr}{n:Nat}{ps:List α}(h:ReadsRow R size w (some ad) n ps):
 ∃inner,Reps R size ps inner/\ ∀j u,inner[j]? =some u->w.cell? (ad.add j)=some u:=by
 have key: ∀m,m<=ps.length-> ∃inner,Reps R size (ps.take m) inner/\ ∀j u,inner[j]? =some u->w.cell? (ad.add j)=some u:=by
  intro m
  induction m with
  |zero=>exact fun _=>⟨[],Reps.none _ _,fun j u hu=>by simp at hu⟩
  |succ m ih=>
   intro hm;obtain⟨inner,hr,hc⟩:=ih (by omega);obtain⟨ad',he,hcell⟩:=h.2.2 (by have:=h.1;omega);injection he with he;subst he;obtain⟨c,hcl,hp,hcc⟩:=hcell m _ (List.getElem?_eq_getElem (show m<ps.length by omega));refine⟨inner++c,?_,fun j u hu=>?_⟩
   ·rw[List.take_succ_eq_append_getElem (show m<ps.length by omega)];exact hr.snoc hp hcl
   ·have hil:inner.length=m*size:=by rw[hr.1,List.length_take,Nat.min_eq_left (by omega)]
    rcases Nat.lt_or_ge j inner.length with hj|hj
    ·rw[List.getElem?_append_left hj]at hu
     exact hc j u hu
    ·rw[List.getElem?_append_right hj]at hu
     have:=hcc (j-inner.length) u hu
     rwa [hil,Nat.add_sub_cancel' (by omega)]at this
 obtain⟨inner,hr,hc⟩:=key ps.length (Nat.le_refl _);rw[List.take_length]at hr
 exact⟨inner,hr,hc⟩
section
variable {α:Type} {P:Program}
theorem print_take_of(enc:α->Value)(d:α)(t e:TypeId)(kl:IntKind){i:TypeInfo}(ht:P.underlying t=some (.slice e))(hi:P.info? e=some i)(hsz:i.size=1)(A:Option Addr)(c:Nat)(xs:List α)(j:Int)(h0:0<=j)(hm:j<=xs.length)(hc:xs.length<=c):
 (∀W:World,(Instr.slice t (.slice A xs.length c) none (some (.int kl j)) none).run P W= .ok (.slice A (xs.take j.toNat).length c) W)/\
   (∀w:World,ReadsOf enc d w A xs.length xs->ReadsOf enc d w A (xs.take j.toNat).length (xs.take j.toNat))/\(xs.take j.toNat).length<=c:=by
 have hl:(xs.take j.toNat).length=j.toNat:=by rw[List.length_take];omega
 refine⟨fun W=>?_,fun w h=>by rw[hl];exact h.take_ j.toNat (by omega),by rw[hl];omega⟩;have hel:P.elem t=e:=by simp[Program.elem,ht]
 have hu:P.underlying t=some (.slice (P.elem t)):=by rw[hel];exact ht
 have ha:(A.map fun x=>x.add 0)=A:=by cases A<;>simp[Addr.add]
 rw[run_slice_h W t A xs.length c hu kl j h0 (by omega),hel,hl];simp[sizeOf,typeInfo,hi,hsz,sliced,Result.andThen,ha]
end
structure Kd (α:Type) where
 sz:Nat
 E:List Nat
 K:World->α->List Value->Prop
 M:World->Nat->(Nat->Prop)->α->List Value->Prop
 K_len: ∀ {w x cs},K w x cs->cs.length=sz
 K_one: ∀ {w x cs},K w x cs-> ∀u∈cs,u.oneCell'=true
 K_below: ∀ {w w1:World} {x cs},Below w.heap.size w w1->K w x cs->K w1 x cs
 K_of_M: ∀ {w base ok x cs},M w base ok x cs->K w x cs
 M_mono: ∀ {w base ok ok' x cs},(∀k,ok k->ok' k)->M w base ok x cs->M w base ok' x cs
 M_bound: ∀ {w:World} {base ok x cs},M w base ok x cs->M w base (fun k=>ok k/\base<=k/\k<w.heap.size/\ ∃q,q∈E/\ ∃cells,w.heap[k]? =some (.cells cells q (0,0))) x cs
 M_move: ∀ {w w1:World} {base ok x cs},(∀k,ok k->w1.heap[k]? =w.heap[k]?)->M w base ok x cs->M w1 base ok x cs
 M_lower: ∀ {w base base' ok x cs},base'<=base->M w base ok x cs->M w base' ok x cs
theorem own_move{w w1:World}{base:Nat}{e:TypeId}{size n:Nat}{v:Value}{xs:List Value}(h:w.ownsRow base e size v n xs)(hm: ∀k,v.ownBlock=some k->w1.heap[k]? =w.heap[k]?):w1.ownsRow base e size v n xs:=by
 obtain⟨h1,h2⟩:=h;refine⟨h1,?_⟩;rcases h2 with h2|⟨g,cap,cur,rfl,hg,hh,r⟩
 ·exact .inl h2
 ·exact .inr ⟨g,cap,cur,rfl,hg,(hm g (by simp[Value.ownBlock])).trans hh,r⟩
theorem own_typed{w:World}{base:Nat}{e:TypeId}{size n:Nat}{v:Value}{xs:List Value}(h:w.ownsRow base e size v n xs)(k:Nat)(hk:v.ownBlock=some k): ∃cells,w.heap[k]? =some (.cells cells e (0,0)):=by
 rcases h.2 with⟨rfl,_⟩|⟨g,cap,cur,rfl,hg,hh,r⟩
 ·simp[Value.ownBlock]at hk
 ·have:g=k:=by simpa[Value.ownBlock]using hk
  subst this;exact⟨cur,hh⟩
namespace Kd
def C{α:Type}(d:Kd α)(w:World)(A:Option Addr)(n:Nat)(xs:List α):Prop:=ReadsRow (d.K w) d.sz w A n xs
def R{α:Type}(d:Kd α)(e:Nat)(w:World)(base:Nat)(ok:Nat->Prop)(v:Value)(xs:List α):Prop:=
 (∀k,v.ownBlock=some k->ok k)/\OwnRow (d.M w base (fun k=>ok k/\some k≠v.ownBlock)) e d.sz w base v xs
section
variable {α:Type} {d:Kd α} {e:Nat} {w w1:World} {base:Nat} {ok ok':Nat->Prop} {v:Value} {xs:List α}
theorem C_below{A:Option Addr}{n:Nat}(h:d.C w A n xs)(hb:Below w.heap.size w w1):d.C w1 A n xs:=ReadsRow.imp_ h hb (fun _ _ hp=>d.K_below hb hp)
theorem R_nil(d:Kd α)(e:Nat)(w:World)(base:Nat)(ok:Nat->Prop):d.R e w base ok (.slice none 0 0) []:=⟨fun k hk=>by simp[Value.ownBlock]at hk,OwnRow.none_ _ _ _ _ _⟩
theorem R_mono(h:d.R e w base ok v xs)(hok: ∀k,ok k->ok' k):d.R e w base ok' v xs:=⟨fun k hk=>hok k (h.1 k hk),h.2.imp_ (fun _ _ hp=>d.M_mono (fun k hk=>⟨hok k hk.1,hk.2⟩) hp)⟩
theorem R_bound(h:d.R e w base ok v xs):d.R e w base (fun k=>ok k/\base<=k/\k<w.heap.size/\ ∃q,q∈e::d.E/\ ∃cells,w.heap[k]? =some (.cells cells q (0,0))) v xs:=by
 obtain⟨h0,inner,ho,hr⟩:=h;refine⟨fun k hk=>?_,inner,ho,hr.imp_ (fun _ _ hp=>d.M_mono (fun k hk=>?_) (d.M_bound hp))⟩
 ·obtain⟨cells,hc⟩:=own_typed ho k hk;exact⟨h0 k hk,own_base ho k hk,own_lt ho k hk,e,List.mem_cons_self,cells,hc⟩
 ·obtain⟨⟨h1,h2⟩,h3,h4,q,hq,hc⟩:=hk;exact⟨⟨h1,h3,h4,q,List.mem_cons_of_mem _ hq,hc⟩,h2⟩
theorem R_move(h:d.R e w base ok v xs)(hm: ∀k,ok k->w1.heap[k]? =w.heap[k]?):d.R e w1 base ok v xs:=by
 obtain⟨h0,inner,ho,hr⟩:=h;exact⟨h0,inner,own_move ho (fun k hk=>hm k (h0 k hk)),hr.imp_ (fun _ _ hp=>d.M_move (fun k hk=>hm k hk.1) hp)⟩
theorem R_lower{base':Nat}(h:d.R e w base ok v xs)(hb:base'<=base):d.R e w base' ok v xs:=by
 obtain⟨h0,inner,ho,hr⟩:=h;exact⟨h0,inner,own_weaken ho hb,hr.imp_ (fun _ _ hp=>d.M_lower hb hp)⟩
theorem R_step(h:d.R e w base ok v xs)(hm: ∀k,ok k->k<w.heap.size->w1.heap[k]? =w.heap[k]?):d.R e w1 base ok v xs:=
 R_mono (R_move (R_bound h) (fun k hk=>hm k hk.1 hk.2.2.1)) (fun _ hk=>hk.1)
theorem M_step{x:α}{cs:List Value}(h:d.M w base ok x cs)(hm: ∀k,ok k->k<w.heap.size->w1.heap[k]? =w.heap[k]?):d.M w1 base ok x cs:=
 d.M_mono (fun _ hk=>hk.1) (d.M_move (fun k hk=>hm k hk.1 hk.2.2.1) (d.M_bound h))
theorem R_below(h:d.R e w base ok v xs)(hb:Below w.heap.size w w1):d.R e w1 base ok v xs:=R_step h (fun k _ hk=>hb.block k hk)
theorem M_below{x:α}{cs:List Value}(h:d.M w base ok x cs)(hb:Below w.heap.size w w1):d.M w1 base ok x cs:=M_step h (fun k _ hk=>hb.block k hk)
theorem R_far(h:d.R e w base ok v xs){p:Addr}(hok: ∀k,ok k->k≠p.block)(u:Value):d.R e (w.setCell p u) base ok v xs:=R_step h (fun k ho _=>Below.heap_setCell w p u k (hok k ho))
theorem R_types(h:d.R e w base ok v xs){g t:Nat}{cells:Array Value}(hb:w.heap[g]? =some (.cells cells t (0,0)))(ht: ∀q,q∈e::d.E->q≠t):d.R e w base (fun k=>ok k/\k≠g) v xs:=
 R_mono (R_bound h) (fun k hk=>⟨hk.1,by
  obtain⟨_,_,_,q,hq,cells',hc⟩:=hk;rintro rfl;rw[hc]at hb
  injection hb with hb;injection hb with _ hb;exact ht q hq hb⟩)
theorem R_reads(h:d.R e w base ok v xs): ∃A c,v= .slice A xs.length c/\xs.length<=c/\d.C w A xs.length xs:=by
 obtain⟨A,c,he,hl,hr⟩:=OwnRow.reads h.2;exact⟨A,c,he,hl,hr.imp_ (Below.refl _ _) (fun _ _ hp=>d.K_of_M hp)⟩
theorem R_slice(h:d.R e w base ok v xs): ∃A c,v= .slice A xs.length c:=by
 obtain⟨A,c,he,_⟩:=R_reads h;exact⟨A,c,he⟩
theorem R_own(h:d.R e w base ok v xs): ∃inner,w.ownsRow base e d.sz v xs.length inner:=by
 obtain⟨_,inner,ho,_⟩:=h;exact⟨inner,ho⟩
theorem R_ne(h:d.R e w base ok v xs){g t:Nat}{cells:Array Value}(hb:w.heap[g]? =some (.cells cells t (0,0)))(ht:e≠t):some g≠v.ownBlock:=OwnRow.ne_block h.2 hb ht
end
def scalar{α:Type}(enc:α->Value)(h1: ∀x,(enc x).oneCell'=true):Kd α where
 sz:=1
 E:= []
 K:=fun _ x cs=>cs= [enc x]
 M:=fun _ _ _ x cs=>cs= [enc x]
 K_len:=fun h=>by rw[h];rfl
 K_one:=fun h u hu=>by
  rw[h]at hu
  rw[List.mem_singleton.1 hu];exact h1 _
 K_below:=fun _ h=>h
 K_of_M:=fun h=>h
 M_mono:=fun _ h=>h
 M_bound:=fun h=>h
 M_move:=fun _ h=>h
 M_lower:=fun _ h=>h
def int(k:IntKind):Kd Int:=scalar (Value.int k) (fun _=>rfl)
def slice{α:Type}(e:Nat)(d:Kd α):Kd (List α) where
 sz:=1
 E:=e::d.E
 K:=fun w xs cs=> ∃A c,cs= [.slice A xs.length c]/\xs.length<=c/\d.C w A xs.length xs
 M:=fun w base ok xs cs=> ∃v,cs= [v]/\d.R e w base ok v xs
 K_len:=by
  rintro w x cs ⟨A,c,rfl,_⟩;rfl
 K_one:=by
  rintro w x cs ⟨A,c,rfl,_⟩ u hu;rw[List.mem_singleton.1 hu];rfl
 K_below:=by
  rintro w w1 x cs hb ⟨A,c,rfl,hl,hr⟩;exact⟨A,c,rfl,hl,C_below hr hb⟩
 K_of_M:=by
  rintro w base ok x cs ⟨v,rfl,h⟩;obtain⟨A,c,rfl,hl,hr⟩:=R_reads h;exact⟨A,c,rfl,hl,hr⟩
 M_mono:=by
  rintro w base ok ok' x cs hok ⟨v,rfl,h⟩;exact⟨v,rfl,R_mono h hok⟩
 M_bound:=by
  rintro w base ok x cs ⟨v,rfl,h⟩;exact⟨v,rfl,R_bound h⟩
 M_move:=by
  rintro w w1 base ok x cs hm ⟨v,rfl,h⟩;exact⟨v,rfl,R_move h hm⟩
 M_lower:=by
  rintro w base base' ok x cs hb ⟨v,rfl,h⟩;exact⟨v,rfl,R_lower h hb⟩
def pair{α β:Type}(a:Kd α)(b:Kd β):Kd (α×β) where
 sz:=a.sz+b.sz
 E:=a.E++b.E
 K:=fun w x cs=> ∃c0 c1,cs=c0++c1/\a.K w x.1 c0/\b.K w x.2 c1
 M:=fun w base ok x cs=> ∃c0 c1,cs=c0++c1/\a.M w base ok x.1 c0/\b.M w base ok x.2 c1
 K_len:=by
  rintro w x cs ⟨c0,c1,rfl,h0,h1⟩;rw[List.length_append,a.K_len h0,b.K_len h1]
 K_one:=by
  rintro w x cs ⟨c0,c1,rfl,h0,h1⟩ u hu;rcases List.mem_append.1 hu with hu|hu
  ·exact a.K_one h0 u hu
  ·exact b.K_one h1 u hu
 K_below:=by
  rintro w w1 x cs hb ⟨c0,c1,rfl,h0,h1⟩;exact⟨c0,c1,rfl,a.K_below hb h0,b.K_below hb h1⟩
 K_of_M:=by
  rintro w base ok x cs ⟨c0,c1,rfl,h0,h1⟩;exact⟨c0,c1,rfl,a.K_of_M h0,b.K_of_M h1⟩
 M_mono:=by
  rintro w base ok ok' x cs hok ⟨c0,c1,rfl,h0,h1⟩;exact⟨c0,c1,rfl,a.M_mono hok h0,b.M_mono hok h1⟩
 M_bound:=by
  rintro w base ok x cs ⟨c0,c1,rfl,h0,h1⟩;refine⟨c0,c1,rfl,a.M_mono ?_ (a.M_bound h0),b.M_mono ?_ (b.M_bound h1)⟩
  ·rintro k ⟨h2,h3,h4,q,hq,hc⟩;exact⟨h2,h3,h4,q,List.mem_append_left _ hq,hc⟩
  ·rintro k ⟨h2,h3,h4,q,hq,hc⟩;exact⟨h2,h3,h4,q,List.mem_append_right _ hq,hc⟩
 M_move:=by
  rintro w w1 base ok x cs hm ⟨c0,c1,rfl,h0,h1⟩;exact⟨c0,c1,rfl,a.M_move hm h0,b.M_move hm h1⟩
 M_lower:=by
  rintro w base base' ok x cs hb ⟨c0,c1,rfl,h0,h1⟩;exact⟨c0,c1,rfl,a.M_lower hb h0,b.M_lower hb h1⟩
def iso{α β:Type}(d:Kd α)(f:β->α):Kd β where
 sz:=d.sz
 E:=d.E
 K:=fun w x cs=>d.K w (f x) cs
 M:=fun w base ok x cs=>d.M w base ok (f x) cs
 K_len:=d.K_len
 K_one:=d.K_one
 K_below:=d.K_below
 K_of_M:=d.K_of_M
 M_mono:=d.M_mono
 M_bound:=d.M_bound
 M_move:=d.M_move
 M_lower:=d.M_lower
def bot{α:Type}(sz:Nat)(E:List Nat):Kd α where
 sz:=sz
 E:=E
 K:=fun _ _ _=>False
 M:=fun _ _ _ _ _=>False
 K_len:=fun h=>h.elim
 K_one:=fun h=>h.elim
 K_below:=fun _ h=>h
 K_of_M:=fun h=>h
 M_mono:=fun _ h=>h
 M_bound:=fun h=>h
 M_move:=fun _ h=>h
 M_lower:=fun _ h=>h
def upto{α:Type}(F:Kd α->Kd α)(sz:Nat)(E:List Nat):Nat->Kd α
 |0=>bot sz E
 |n+1=>F (upto F sz E n)
theorem C_get{α:Type}{d:Kd α}{w:World}{A:Option Addr}{n:Nat}{xs:List α}(h:d.C w A n xs)(z:α)(i:Int)(h0:0<=i)(h1:i<n):
 ∃ad c,A=some ad/\c.length=d.sz/\d.K w (xs.getD i.toNat z) c/\ ∀j u,c[j]? =some u->w.cell? (ad.add (i.toNat*d.sz+j))=some u:=ReadsRow.get_ h z i h0 h1
theorem R_appended{α:Type}{d:Kd α}{e base:Nat}{ok okp:Nat->Prop}{W w1:World}{v v1:Value}{xs:List α}{p:α}{inner cs:List Value}(h0: ∀k,v.ownBlock=some k->ok k)(hr:Reps (d.M W base (fun k=>ok k/\some k≠v.ownBlock)) d.sz xs inner)(hp:d.M W base okp p cs)(hokp: ∀k,okp k->ok k/\some k≠v.ownBlock)(hfresh: ∀k,W.heap.size<=k->ok k)
 (hown:w1.ownsRow base e d.sz v1 (xs.length+1) (inner++cs)) (hg:W.grownBy w1 v.ownBlock) (hat:v1.ownBlock=v.ownBlock∨ ∃b,v1.ownBlock=some b/\W.heap.size<=b):d.R e w1 base ok v1 (xs++ [p]):=by
 have hne: ∀k,some k≠v.ownBlock->k<W.heap.size->some k≠v1.ownBlock:=by
  intro k hk hlt;rcases hat with hat|⟨b,hb,hle⟩
  ·rw[hat];exact hk
  ·rw[hb];intro he;injection he with he;omega
 have step: ∀ {q:α} {c:List Value} {o:Nat->Prop},d.M W base o q c->(∀k,o k->ok k/\some k≠v.ownBlock)->d.M w1 base (fun k=>ok k/\some k≠v1.ownBlock) q c:=by
  intro q c o hq ho;have h1:=d.M_move (w1:=w1) (fun k hk=>hg.block k hk.2.2.1 (ho k hk.1).2) (d.M_bound hq);exact d.M_mono (fun k hk=>⟨(ho k hk.1).1,hne k (ho k hk.1).2 hk.2.2.1⟩) h1
 refine⟨fun k hk=>?_,inner++cs,by rw[List.length_append,List.length_singleton];exact hown,?_⟩
 ·rcases hat with hat|⟨b,hb,hle⟩
  ·exact h0 k (hat▸hk)
  ·rw[hb]at hk
   injection hk with hk;exact hfresh k (by omega)
 ·exact(hr.imp_ (fun _ _ hq=>step hq (fun _ hk=>hk))).snoc (step hp hokp) (d.K_len (d.K_of_M hp))
section
variable {P:Program} {ops:Array Oper} {rest:List Oper} {o:Oper} {a:Act} {Q:Exit->Act->World->Prop} {α:Type}
theorem R_append(d:Kd α){w0 W:World}(base:Nat)(hgd:o.guard=none)(s x:Operand)(t e:TypeId)(z:Value)(bytes:Nat)
 (ho:o.op= .call { callee:= .builtin .append,args:= #[s,x],argTypes:= #[t,t] })
 (ht:P.underlying t=some (.slice e)) (hinfo:(P.info? e).map (fun i=>(i.zero,i.size,i.bytes))=some (some z,d.sz,bytes)) (hz:z.cells.size=d.sz) (hs0:0<d.sz) (hb0:0<bytes)
 (v:Value) (xs:List α) (p:α) (cs:List Value) (ok okp:Nat->Prop) (hs:a.eval s=v) (hx:a.eval x= .slice (some ⟨W.heap.size,0,none⟩) 1 1) (hp:d.M W base okp p cs) (hokp: ∀k,okp k->ok k/\some k≠v.ownBlock) (hfresh: ∀k,W.heap.size<=k->ok k)
 (HO:d.R e W base ok v xs) (HB:Below base w0 W) (hbase:base<=W.heap.size) (hl:(xs.length+1)*bytes<=140737488355328)
 (h: ∀v1 w1,d.R e w1 base ok v1 (xs++ [p])->Below base w0 w1->W.grownBy w1 v.ownBlock->(v1.ownBlock=v.ownBlock∨ ∃b,v1.ownBlock=some b/\W.heap.size<=b)->wpList P ops Q rest (a.put o.dst v1) w1):
 wpList P ops Q (o::rest) a (W.alloc (.cells cs.toArray e)):=by
 obtain⟨h0,inner,hown,hr⟩:=HO;refine print_append_cells base hgd s x t e z d.sz bytes ho ht hinfo hz hs0 hb0 v xs.length inner cs hs hx (d.K_len (d.K_of_M hp)) (d.K_one (d.K_of_M hp)) hown HB hbase hl ?_;intro v1 w1 hown1 hb1 hg1 hat1;exact h v1 w1 (R_appended h0 hr hp hokp hfresh hown1 hg1 hat1) hb1 hg1 hat1
end
section
variable {P:Program} {ops:Array Oper} {o:Oper} {a:Act} {Q:Exit->Act->World->Prop} {Kc:Act->World->Prop} {α:Type}
theorem R_append_step(d:Kd α){w0 W:World}(base:Nat)(hw:Region.wanted o (yielded ops a.tmps)=true)(s x:Operand)(t e:TypeId)(z:Value)(bytes:Nat)
 (ho:o.op= .call { callee:= .builtin .append,args:= #[s,x],argTypes:= #[t,t] })
 (ht:P.underlying t=some (.slice e)) (hinfo:(P.info? e).map (fun i=>(i.zero,i.size,i.bytes))=some (some z,d.sz,bytes)) (hz:z.cells.size=d.sz) (hs0:0<d.sz) (hb0:0<bytes)
 (v:Value) (xs:List α) (p:α) (cs:List Value) (ok okp:Nat->Prop) (hs:a.eval s=v) (hx:a.eval x= .slice (some ⟨W.heap.size,0,none⟩) 1 1) (hp:d.M W base okp p cs) (hokp: ∀k,okp k->ok k/\some k≠v.ownBlock) (hfresh: ∀k,W.heap.size<=k->ok k)
 (HO:d.R e W base ok v xs) (HB:Below base w0 W) (hbase:base<=W.heap.size) (hl:(xs.length+1)*bytes<=140737488355328)
 (h: ∀v1 w1,d.R e w1 base ok v1 (xs++ [p])->Below base w0 w1->W.grownBy w1 v.ownBlock->(v1.ownBlock=v.ownBlock∨ ∃b,v1.ownBlock=some b/\W.heap.size<=b)->Kc (a.put o.dst v1) w1):
 if Region.wanted o (yielded ops a.tmps)=true then Oper.wp P o a (W.alloc (.cells cs.toArray e)) Kc Q else Kc (a.put o.dst undef) (W.alloc (.cells cs.toArray e)):=by
 obtain⟨h0,inner,hown,hr⟩:=HO;refine step_append_cells base hw s x t e z d.sz bytes ho ht hinfo hz hs0 hb0 v xs.length inner cs hs hx (d.K_len (d.K_of_M hp)) (d.K_one (d.K_of_M hp)) hown HB hbase hl ?_;intro v1 w1 hown1 hb1 hg1 hat1;exact h v1 w1 (R_appended h0 hr hp hokp hfresh hown1 hg1 hat1) hb1 hg1 hat1
end
theorem reps_scalar{α:Type}{enc:α->Value}(xs:List α):Reps (fun(x:α) (cs:List Value)=>cs= [enc x]) 1 xs (encs enc xs):=by
 refine⟨by simp[encs],fun j p hj=>?_⟩;obtain⟨hl,hp⟩:=List.getElem?_eq_some_iff.1 hj;have hl':j<(encs enc xs).length:=by rw[encs_length];exact hl
 rw[Nat.mul_one,List.drop_eq_getElem_cons hl'];simp[encs,hp]
theorem R_of_own{α:Type}{enc:α->Value}{h1: ∀x,(enc x).oneCell'=true}{e:Nat}{w:World}{base:Nat}{ok:Nat->Prop}{v:Value}{xs:List α}(ho:w.ownsRow base e 1 v xs.length (encs enc xs))(hok: ∀k,v.ownBlock=some k->ok k):(scalar enc h1).R e w base ok v xs:=⟨hok,encs enc xs,ho,reps_scalar xs⟩
theorem own_of_R{α:Type}{enc:α->Value}{h1: ∀x,(enc x).oneCell'=true}{e:Nat}{w:World}{base:Nat}{ok:Nat->Prop}{v:Value}{xs:List α}(h:(scalar enc h1).R e w base ok v xs):w.ownsRow base e 1 v xs.length (encs enc xs):=by
 obtain⟨_,inner,ho,hr⟩:=h;have:inner=encs enc xs:=by
  apply List.ext_getElem?;intro j;rcases Nat.lt_or_ge j xs.length with hj|hj
  ·have h2:=hr.2 j _ (List.getElem?_eq_getElem hj);have hl:j<inner.length:=by have:=hr.1;simp[scalar]at this;omega
   have h3:(inner.drop (j*1)).take 1= [enc xs[j]]:=h2;rw[Nat.mul_one,List.drop_eq_getElem_cons hl]at h3
   have h4:inner[j] =enc xs[j]:=by
    have h5:=congrArg List.head? h3;rw[List.take_succ_cons]at h5
    exact Option.some.inj h5
   rw[List.getElem?_eq_getElem hl,h4];simp[encs,List.getElem?_eq_getElem hj]
  ·have h3:inner.length=xs.length:=by have:=hr.1;simp[scalar]at this;omega
   rw[List.getElem?_eq_none (by omega),List.getElem?_eq_none (by rw[encs_length];omega)]
 rw[<-this];exact ho
theorem C_of_reads{α:Type}{enc:α->Value}{d:α}{h1: ∀x,(enc x).oneCell'=true}{w:World}{A:Option Addr}{n:Nat}{xs:List α}(h:ReadsOf enc d w A n xs):(scalar enc h1).C w A n xs:=by
 refine⟨h.1,h.2.1,fun hn=>?_⟩;obtain⟨ad,e,hc⟩:=h.2.2 hn;refine⟨ad,e,fun j p hj=>⟨[enc p],rfl,rfl,fun i u hu=>?_⟩⟩;obtain⟨hl,hp⟩:=List.getElem?_eq_some_iff.1 hj;have h2:=hc j (by have:=h.1;omega);rw[List.getD_eq_getElem?_getD,hj]at h2
 cases i with
 |zero=>
  have:enc p=u:=by simpa using hu
  subst this;simpa[scalar]using h2
 |succ i=>simp at hu
theorem reads_of_C{α:Type}{enc:α->Value}{d:α}{h1: ∀x,(enc x).oneCell'=true}{w:World}{A:Option Addr}{n:Nat}{xs:List α}(h:(scalar enc h1).C w A n xs):ReadsOf enc d w A n xs:=by
 refine⟨h.1,h.2.1,fun hn=>?_⟩;obtain⟨ad,e,hc⟩:=h.2.2 hn;refine⟨ad,e,fun j hj=>?_⟩;have hl:j<xs.length:=by have:=h.1;omega
 obtain⟨c,_,hK,hcell⟩:=hc j _ (List.getElem?_eq_getElem hl);have hK':c= [enc xs[j]]:=hK;subst hK';have:=hcell 0 _ rfl;simpa[scalar,List.getD_eq_getElem?_getD,List.getElem?_eq_getElem hl]using this
section
variable {α:Type} {F:Kd α->Kd α} {sz:Nat} {E:List Nat} {hs: ∀n,(upto F sz E n).sz=sz} {hE: ∀n q,q∈(upto F sz E n).E->q∈E}
end
theorem R_after{α:Type}{d:Kd α}{e base:Nat}{ok:Nat->Prop}{W w1:World}{u v v1:Value}{xs:List α}(h:d.R e W base (fun k=>ok k/\some k≠v.ownBlock) u xs)(hg:W.grownBy w1 v.ownBlock)(hat:v1.ownBlock=v.ownBlock∨ ∃b,v1.ownBlock=some b/\W.heap.size<=b):d.R e w1 base (fun k=>ok k/\some k≠v1.ownBlock) u xs:=by
 refine R_mono (R_move (R_bound h) (fun k hk=>hg.block k hk.2.2.1 hk.1.2)) (fun k hk=>⟨hk.1.1,?_⟩);rcases hat with hat|⟨b,hb,hle⟩
 ·rw[hat];exact hk.1.2
 ·rw[hb];intro he;injection he with he;have:=hk.2.2.1;omega
section
variable {α β:Type} {d:Kd α} {d':Kd β} {e e':Nat} {w w1 W:World} {base b b':Nat} {ok ok' okv oku:Nat->Prop} {v u:Value} {xs:List α} {ys:List β}
theorem R_alloc(h:d.R e w base ok v xs)(o:Obj):d.R e (w.alloc o) base ok v xs:=R_below h (below_alloc (Below.refl _ _) o)
theorem R_drew(h:d.R e w base ok v xs):d.R e w.drew base ok v xs:=R_below h (below_drew (Below.refl _ _))
theorem R_drewN(h:d.R e w base ok v xs)(m:Nat):d.R e (w.drewN m) base ok v xs:=R_below h (pw_below_drewN (Below.refl _ _) m)
theorem C_nil(d:Kd α)(w:World):d.C w none ([]:List α).length []:=⟨rfl,by simp,fun h=>absurd h (Nat.lt_irrefl 0)⟩
theorem R_reads'{A:Option Addr}{n c:Nat}(h:d.R e w base ok (.slice A n c) xs):n=xs.length/\n<=c/\d.C w A xs.length xs:=by
 obtain⟨A',c',he,hl,hr⟩:=R_reads h;injection he with h1 h2 h3;subst h1;exact⟨h2,by omega,hr⟩
theorem R_lt(h:d.R e w base ok v xs): ∀k,v.ownBlock=some k->k<w.heap.size:=by
 obtain⟨inner,ho⟩:=R_own h;exact own_lt ho
theorem R_base(h:d.R e w base ok v xs): ∀k,v.ownBlock=some k->base<=k:=by
 obtain⟨inner,ho⟩:=R_own h;exact own_base ho
theorem R_form(h:d.R e w base ok v xs)(hp:0<xs.length): ∃g cap,v= .slice (some ⟨g,0,none⟩) xs.length cap/\base<=g/\g<w.heap.size/\ ∃cells,w.heap[g]? =some (.cells cells e (0,0)):=by
 obtain⟨inner,ho⟩:=R_own h;obtain⟨g,cap,he,hb,hl⟩:=ho.form hp;obtain⟨cells,hc⟩:=own_typed ho g (by rw[he];simp[Value.ownBlock]);exact⟨g,cap,he,hb,hl,cells,hc⟩
end
section
variable {w W:World} {A:Option Addr} {n:Nat}
theorem at_int{k:IntKind}{xs:List Int}(h:(Kd.int k).C w A n xs)(i:Int)(h0:0<=i)(h1:i<n): ∃ad,A=some ad/\w.cell? (ad.add i.toNat)=some (.int k (rd xs i)):=
 ReadsOf.at_ (reads_of_C (enc:=Value.int k) (d:=(0:Int)) (h1:=fun _=>rfl) h) i h0 h1
variable {α:Type} {enc:α->Value} {h1: ∀x,(enc x).oneCell'=true} {e base g cap:Nat} {ok:Nat->Prop} {xs:List α}
theorem R_cell(d:α)(h:(scalar enc h1).R e W base ok (.slice (some ⟨g,0,none⟩) xs.length cap) xs)(i:Int)(h0:0<=i)(hi:i<xs.length):W.cell? ⟨g,i.toNat,none⟩=some (enc (rdOf d xs i))/\W.frozen? ⟨g,i.toNat,none⟩=false:=own_at_of (own_of_R h) i h0 hi
theorem R_put(h:(scalar enc h1).R e W base ok (.slice (some ⟨g,0,none⟩) xs.length cap) xs)(i:Int)(x:α):(scalar enc h1).R e (W.setCell ⟨g,i.toNat,none⟩ (enc x)) base ok (.slice (some ⟨g,0,none⟩) xs.length cap) (xs.set i.toNat x)/\W.grownBy (W.setCell ⟨g,i.toNat,none⟩ (enc x)) (some g):=by
 obtain⟨ho,hg⟩:=own_store_of (own_of_R h) i x;exact⟨R_of_own (by rw[List.length_set];exact ho) h.1,hg⟩
end
section
variable {P:Program} {ops:Array Oper} {rest:List Oper} {o:Oper} {a:Act} {Q:Exit->Act->World->Prop}
theorem event_run{W w1:World}{v:Value}(hgd:o.guard=none)(hrun:(execOp a.eval o).run P W= .ok (.value v) w1)(h:wpList P ops Q rest (a.put o.dst v) w1):wpList P ops Q (o::rest) a W:=by
 refine wpList_plain hgd fun K hK=>?_;unfold Oper.wp;rw[hrun];exact hK _ _ h
variable {α:Type}
theorem R_lit(d:Kd α){w0 W:World}(base e:Nat)(hgd:o.guard=none){N:Tmp}(_hd:o.dst=some N){xs:List α}{inner:List Value}{ok okp:Nat->Prop}
 (hrun:(execOp a.eval o).run P W= .ok (.value (.slice (some ⟨W.heap.size,0,none⟩) xs.length xs.length)) (W.alloc (.cells inner.toArray e)))
 (hrep:Reps (d.M W base okp) d.sz xs inner) (hok: ∀k,okp k->ok k) (hfresh:ok W.heap.size) (HB:Below base w0 W) (hbase:base<=W.heap.size) (hm:xs.length<=9223372036854775807)
 (h: ∀v1 w1,d.R e w1 base ok v1 xs->Below base w0 w1->W.grownBy w1 none->(∃b,v1.ownBlock=some b/\W.heap.size<=b)->wpList P ops Q rest (a.put o.dst v1) w1):wpList P ops Q (o::rest) a W:=by
 refine event_run hgd hrun (h _ _ ⟨fun k hk=>?_,inner,?_,?_⟩ (HB.alloc hbase _) (World.grownBy_alloc W _ none) ⟨W.heap.size,by simp[Value.ownBlock],Nat.le_refl _⟩)
 ·have:W.heap.size=k:=by simpa[Value.ownBlock]using hk
  subst this;exact hfresh
 ·have h2:=World.ownsRow_lit (base:=base) (e:=e) (size:=d.sz) W inner.toArray xs.length hbase (by simpa[maxLen]using hm) (by simpa using hrep.1);simpa using h2
 ·refine hrep.imp_ (fun p c hp=>d.M_mono (fun k hk=>⟨hok k hk.1,fun he=>?_⟩) (M_below (d.M_bound hp) (below_alloc (Below.refl _ _) _)));have h3:k=W.heap.size:=by simpa[Value.ownBlock]using he
  have:=hk.2.2.1;omega
theorem reps_made{α:Type}{R:α->List Value->Prop}{z:Value}{size:Nat}{z0:α}(hz:z.cells.size=size)(hs:0<size)(h0:R z0 z.cells.toList)(m:Nat):Reps R size (List.replicate m z0) (madeCells z.cells (m*size)).toList:=by
 refine⟨by simp[size_madeCells],fun j p hj=>?_⟩;obtain⟨hjl,hp⟩:=List.getElem?_eq_some_iff.1 hj;have hjm:j<m:=by simpa using hjl
 have hp':z0=p:=by simpa using hp
 subst hp';have hle:j*size+size<=m*size:=by rw[<-Nat.succ_mul];exact Nat.mul_le_mul_right _ hjm
 have:((madeCells z.cells (m*size)).toList.drop (j*size)).take size=z.cells.toList:=by
  apply List.ext_getElem
  ·simp[size_madeCells,hz];omega
  ·intro i h1 h2;have hi:i<size:=by rw[Array.length_toList,hz]at h2;exact h2
   have hmod:(j*size+i) % size=i:=by
    rw[Nat.mul_comm,Nat.mul_add_mod];exact Nat.mod_eq_of_lt hi
   simp[madeCells,hz,hmod];rw[getElem!_pos z.cells i (by omega)]
 rw[this];exact h0
theorem R_make(d:Kd α){w0 W:World}(base e:Nat)(hgd:o.guard=none){N:Tmp}(hd:o.dst=some N)(t:TypeId)(x y:Operand)(ho:o.op= .makeSlice t x y)(n:Int)(hx:a.eval x= .int .i64 n)(hy:a.eval y= .int .i64 n)
 (ht:P.underlying t=some (.slice e)) (z:Value) (bytes:Nat) (hinfo:(P.info? e).map (fun i=>(i.zero,i.size,i.bytes))=some (some z,d.sz,bytes)) (hz:z.cells.size=d.sz) (hs0:0<d.sz) (hb0:0<bytes)
 (z0:α) {ok okp:Nat->Prop} (hzero:d.M W base okp z0 z.cells.toList) (hok: ∀k,okp k->ok k) (hfresh:ok W.heap.size) (h0:0<=n) (hl:n.toNat*bytes<=281474976710656) (HB:Below base w0 W) (hbase:base<=W.heap.size)
 (h: ∀v1 w1,d.R e w1 base ok v1 (List.replicate n.toNat z0)->Below base w0 w1->W.grownBy w1 none->(∃b,v1.ownBlock=some b/\W.heap.size<=b)->wpList P ops Q rest (a.put o.dst v1) w1):wpList P ops Q (o::rest) a W:=by
 obtain⟨m,rfl⟩:=Int.eq_ofNat_of_zero_le h0;simp only[Int.toNat_natCast]at hl h;obtain⟨i0,hi,hzz⟩:=Option.map_eq_some_iff.1 hinfo;simp only[Prod.mk.injEq]at hzz;obtain⟨hz0,hz1,hz2⟩:=hzz;have hm:m<=281474976710656:=Nat.le_trans (Nat.le_mul_of_pos_right _ hb0) hl
 have hr:=run_make (P:=P) W t e i0 z ht hi hz0 .i64 .i64 (m:Int) (m:Int) (by omega) (by omega)
  (by
    have h3:((i0.bytes*m:Nat):Int)<=281474976710656:=by rw[hz2,Nat.mul_comm];omega
    rwa [Int.natCast_mul]at h3) (by omega)
 simp only[Int.toNat_natCast]at hr;rw[hz1]at hr
 refine R_lit d base e hgd hd (xs:=List.replicate m z0) (inner:=(madeCells z.cells (m*d.sz)).toList) (okp:=okp) (ok:=ok) ?_ (reps_made hz hs0 hzero m) hok hfresh HB hbase (by simp;omega) h;simp[execOp,ho,hx,hy,hr]
end
end Kd
section
variable {P:Program}
end
section
variable {w w1:World} {base n size:Nat} {e:TypeId} {v:Value} {xs:List Value}
end
namespace Kd
section
variable {α:Type} {d:Kd α} {e:Nat} {w w1 W:World} {base:Nat} {ok ok':Nat->Prop} {v:Value} {xs:List α}
end
section
variable {α:Type} {d:Kd α} {e e':Nat} {w w1 W:World} {base:Nat} {ok:Nat->Prop} {u v:Value} {xs:List α}
theorem R_typed(h:d.R e w base ok v xs): ∀k,v.ownBlock=some k-> ∃cells,w.heap[k]? =some (.cells cells e (0,0)):=by
 obtain⟨inner,ho⟩:=R_own h;exact fun k hk=>own_typed ho k hk
theorem R_over'(h:d.R e W base ok u xs)(hty: ∀k,v.ownBlock=some k-> ∃cells,W.heap[k]? =some (.cells cells e' (0,0)))(ht: ∀q,q∈e::d.E->q≠e')(hg:W.grownBy w1 v.ownBlock):d.R e w1 base ok u xs:=by
 refine R_mono (R_move (R_bound h) (fun k hk=>hg.block k hk.2.2.1 (fun he=>?_))) (fun _ hk=>hk.1);obtain⟨_,_,_,q,hq,cells,hc⟩:=hk;obtain⟨cells',hc'⟩:=hty k he.symm;rw[hc]at hc'
 injection hc' with hc';injection hc' with _ hc';exact ht q hq hc'
theorem R_apart'(h:d.R e W base ok u xs)(hty: ∀k,v.ownBlock=some k-> ∃cells,W.heap[k]? =some (.cells cells e' (0,0)))(ht: ∀q,q∈e::d.E->q≠e'):d.R e W base (fun k=>ok k/\some k≠v.ownBlock) u xs:=by
 refine R_mono (R_bound h) (fun k hk=>⟨hk.1,fun he=>?_⟩);obtain⟨_,_,_,q,hq,cells,hc⟩:=hk;obtain⟨cells',hc'⟩:=hty k he.symm;rw[hc]at hc'
 injection hc' with hc';injection hc' with _ hc';exact ht q hq hc'
theorem R_elder'(hu:d.R e W base ok u xs)(hbase: ∀k,v.ownBlock=some k->W.heap.size<=k)(hb:Below W.heap.size W w1):d.R e w1 base (fun k=>ok k/\some k≠v.ownBlock) u xs:=
 R_mono (R_move (R_bound hu) (fun k hk=>hb.block k hk.2.2.1)) (fun k hk=>⟨hk.1,fun he=>by have:=hbase k he.symm;have:=hk.2.2.1;omega⟩)
theorem R_new'(h:d.R e w1 W.heap.size ok v xs)(hlt: ∀k,u.ownBlock=some k->k<W.heap.size):d.R e w1 W.heap.size (fun k=>ok k/\some k≠u.ownBlock) v xs:=
 R_mono (R_bound h) (fun k hk=>⟨hk.1,fun he=>by have:=hlt k he.symm;have:=hk.2.1;omega⟩)
theorem fresh'(hlt: ∀k,u.ownBlock=some k->k<W.heap.size): ∀k,W.heap.size<=k->some k≠u.ownBlock:=fun k hk he=>by have:=hlt k he.symm;omega
end
theorem reps_append{α:Type}{R:α->List Value->Prop}{size:Nat}{ps qs:List α}{cs ds:List Value}(h:Reps R size ps cs)(h':Reps R size qs ds):Reps R size (ps++qs) (cs++ds):=by
 refine⟨by rw[List.length_append,List.length_append,h.1,h'.1,Nat.add_mul],fun j p hj=>?_⟩;rcases Nat.lt_or_ge j ps.length with hlt|hge
 ·rw[List.getElem?_append_left hlt]at hj
  have hle:j*size+size<=cs.length:=by rw[h.1,<-Nat.succ_mul];exact Nat.mul_le_mul_right _ hlt
  rw[List.drop_append_of_le_length (by omega),List.take_append_of_le_length (by rw[List.length_drop];omega)];exact h.2 j p hj
 ·rw[List.getElem?_append_right hge]at hj
  have h2:=h'.2 (j-ps.length) p hj;have hle:ps.length*size<=j*size:=Nat.mul_le_mul_right _ hge;rw[List.drop_append,List.drop_eq_nil_of_le (by rw[h.1];exact hle),List.nil_append,h.1,<-Nat.sub_mul];exact h2
section
variable {P:Program} {ops:Array Oper} {rest:List Oper} {o:Oper} {a:Act} {Q:Exit->Act->World->Prop} {α:Type}
theorem R_append_rows(d:Kd α){Rr:α->List Value->Prop}{w0 W:World}(base:Nat)(hgd:o.guard=none)(s x:Operand)(t e:TypeId)(z:Value)(bytes:Nat)
 (ho:o.op= .call { callee:= .builtin .append,args:= #[s,x],argTypes:= #[t,t] })
 (ht:P.underlying t=some (.slice e)) (hinfo:(P.info? e).map (fun i=>(i.zero,i.size,i.bytes))=some (some z,d.sz,bytes)) (hz:z.cells.size=d.sz) (hs0:0<d.sz) (hb0:0<bytes)
 (v:Value) (xs ys:List α) (A:Option Addr) (m c:Nat) (ok okp:Nat->Prop) (hs:a.eval s=v) (hx:a.eval x= .slice A m c)
 (HO:d.R e W base ok v xs) (HR:ReadsRow Rr d.sz W A m ys) (hKM: ∀x cs,Rr x cs->d.M W base okp x cs) (hokp: ∀k,okp k->ok k/\some k≠v.ownBlock) (hfresh: ∀k,W.heap.size<=k->ok k)
 (HB:Below base w0 W) (hbase:base<=W.heap.size) (hl:(xs.length+m)*bytes<=140737488355328)
 (h: ∀v1 w1,d.R e w1 base ok v1 (xs++ys)->Below base w0 w1->W.grownBy w1 v.ownBlock->(v1.ownBlock=v.ownBlock∨ ∃b,v1.ownBlock=some b/\W.heap.size<=b)->wpList P ops Q rest (a.put o.dst v1) w1):
 wpList P ops Q (o::rest) a W:=by
 obtain⟨i0,hi,hzz⟩:=Option.map_eq_some_iff.1 hinfo;simp only[Prod.mk.injEq]at hzz;obtain⟨hz0,hz1,hz2⟩:=hzz;have hm:ys.length=m:=HR.1;have hlen:xs.length+m<=140737488355328:=Nat.le_trans (Nat.le_mul_of_pos_right _ hb0) hl;obtain⟨hok,inner,hown,hr⟩:=HO;have hrun: ∃v1 w1,(Builtin.append_ #[t,t] o.type #[v,.slice A m c]).run P W= .ok v1 w1/\d.R e w1 base ok v1 (xs++ys)/\W.grownBy w1 v.ownBlock/\(v1.ownBlock=v.ownBlock∨ ∃b,v1.ownBlock=some b/\W.heap.size<=b):=by
  rcases A with _|ad
  ·have h0:m=0:=by
    rcases Nat.eq_zero_or_pos m with h0|h0
    ·exact h0
    ·obtain⟨ad,h,_⟩:=HR.2.2 h0
     cases h
   subst h0;obtain rfl:ys= []:=List.eq_nil_of_length_eq_zero hm;refine⟨v,W,?_,by rw[List.append_nil];exact⟨hok,inner,hown,hr⟩,World.grownBy.refl W _,.inl rfl⟩;rcases hown.2 with⟨rfl,hn⟩|⟨g,cap,cur,rfl,_,_,hnc,_⟩
   ·simp[Builtin.append_,run_underlying ht,sizeOf,typeInfo,hi,Builtin.lenOf,Builtin.firstCells]
   ·simp[Builtin.append_,run_underlying ht,sizeOf,typeInfo,hi,Builtin.lenOf,Builtin.firstCells,hnc,storeCells]
  ·obtain⟨news,hnr,hnc⟩:=ReadsRow.inner_ HR;have hnM:Reps (d.M W base okp) d.sz ys news:=hnr.imp_ (fun p c hp=>hKM p c hp);have hone: ∀u∈news,u.oneCell'=true:=by
    intro u hu;obtain⟨q,hq,rfl⟩:=List.mem_iff_getElem.1 hu;have hql:q / d.sz<ys.length:=by
     rw[Nat.div_lt_iff_lt_mul hs0];rw[<-hnM.1];exact hq
    have hc:=hnM.2 (q / d.sz) _ (List.getElem?_eq_getElem hql);refine d.K_one (d.K_of_M hc) _ ?_;rw[List.mem_iff_getElem?];refine⟨q % d.sz,?_⟩;rw[List.getElem?_take,if_pos (Nat.mod_lt _ hs0),List.getElem?_drop,Nat.mul_comm,Nat.div_add_mod,List.getElem?_eq_getElem hq]
   obtain⟨v1,w1,hrun,h2,hg,_,hat⟩:=run_append_own_at (P:=P) W base t o.type e i0 z d.sz bytes ht hi hz0 hz1 hz2 hz hs0 v xs.length inner hown ad m c news (by rw[hnM.1,hm]) hnc hone (by simp only[maxLen];omega) hl hbase;have hat':v1.ownBlock=v.ownBlock∨ ∃b,v1.ownBlock=some b/\W.heap.size<=b:=by
    rcases hat with hat|hat
    ·exact .inl hat
    ·exact .inr ⟨_,hat,Nat.le_refl _⟩
   have hne: ∀k,some k≠v.ownBlock->k<W.heap.size->some k≠v1.ownBlock:=by
    intro k hk hlt;rcases hat' with hat|⟨b,hb,hle⟩
    ·rw[hat];exact hk
    ·rw[hb];intro he;injection he with he;omega
   have step: ∀ {q:α} {c:List Value} {o:Nat->Prop},d.M W base o q c->(∀k,o k->ok k/\some k≠v.ownBlock)->d.M w1 base (fun k=>ok k/\some k≠v1.ownBlock) q c:=by
    intro q c o hq ho;have h1:=d.M_move (w1:=w1) (fun k hk=>hg.block k hk.2.2.1 (ho k hk.1).2) (d.M_bound hq);exact d.M_mono (fun k hk=>⟨(ho k hk.1).1,hne k (ho k hk.1).2 hk.2.2.1⟩) h1
   refine⟨v1,w1,hrun,⟨fun k hk=>?_,inner++news,by rw[List.length_append,hm];exact h2,reps_append (hr.imp_ (fun _ _ hq=>step hq (fun _ hk=>hk))) (hnM.imp_ (fun _ _ hq=>step hq hokp))⟩,hg,hat'⟩;rcases hat' with hat|⟨b,hb,hle⟩
   ·exact hok k (hat▸hk)
   ·rw[hb]at hk
    injection hk with hk;exact hfresh k (by omega)
 obtain⟨v1,w1,hr1,h1,hg,hat⟩:=hrun;refine wpList_plain hgd fun K hK=>?_;unfold Oper.wp execOp;simp only[ho,resolve,invoke,builtin,Sem.run_bind,Sem.run_pure,Result.andThen_ok,List.map_toArray,List.map_cons,List.map_nil,hs,hx,hr1];exact hK _ _ (h v1 w1 h1 (HB.grown hg hbase (own_base hown)) hg hat)
end
section
variable {α:Type} {k:Kd α} {w:World} {A:Option Addr} {xs:List α} {m c:Nat}
end
end Kd
theorem string_of_reads{P:Program}{w:World}{src dst e:TypeId}{A:Option Addr}{n c:Nat}{xs:List Int}(hs:P.underlying src=some (.slice e))(he:P.underlying e=some (.int .u8))(hd:P.underlying dst=some .string)
 (h:ReadsInt w .u8 A n xs):(convert src dst (.slice A n c)).run P w= .ok (.string (strOfNums xs)) w:=by
 have hn:xs.length=n:=h.1;rcases A with _|ad
 ·have h0:n=0:=by
   rcases Nat.eq_zero_or_pos n with h0|h0
   ·exact h0
   ·obtain⟨ad,h',_⟩:=h.2.2 h0
    cases h'
  subst h0;obtain rfl:xs= []:=List.eq_nil_of_length_eq_zero hn;exact run_convert_bytes_nil w src e hs he 0 c dst hd
 ·have hl:(loadCells ad n).run P w= .ok (xs.map (Value.int .u8)).toArray w:=by
   have:=run_loadCells_list (P:=P) w ad (xs.map (Value.int .u8)) (fun j v hj=>by
    have hjl:j<xs.length:=by
     rcases Nat.lt_or_ge j xs.length with h'|h'
     ·exact h'
     ·rw[List.getElem?_eq_none (by rw[List.length_map];exact h')]at hj
      cases hj
    obtain⟨ad',he',hc⟩:=h.2.2 (by omega);injection he' with he';subst he';rw[hc j (by omega)];rw[List.getElem?_map,List.getElem?_eq_getElem hjl]at hj
    simp at hj;subst hj;simp[List.getD_eq_getElem?_getD,List.getElem?_eq_getElem hjl])
   simpa[hn]using this
  rw[run_convert_bytes_string w src dst e _ n c hs he hd,run_bytesToString w ad n c xs hl,foldl_push_bytes];simp[strOfNums,ByteArray.empty,ByteArray.emptyWithCapacity];rfl
theorem Kd.C_string{P:Program}{w:World}{src dst e:TypeId}{A:Option Addr}{n c:Nat}{xs:List Int}(hs:P.underlying src=some (.slice e))(he:P.underlying e=some (.int .u8))(hd:P.underlying dst=some .string)
 (h:(Kd.int .u8).C w A n xs):(convert src dst (.slice A n c)).run P w= .ok (.string (strOfNums xs)) w:=
 string_of_reads hs he hd (Kd.reads_of_C (enc:=Value.int .u8) (d:=(0:Int)) (h1:=fun _=>rfl) h)
theorem below_size{w W:World}(h:Below w.heap.size w W):w.heap.size<=W.heap.size:=h.size
theorem below_step{w W w2:World}(h:Below w.heap.size w W)(k:Below W.heap.size W w2):Below w.heap.size w w2:=below_then h h.size k
theorem pw_own_drewN{W:World}{base n:Nat}{e:TypeId}{size:Nat}{v:Value}{xs:List Value}(h:W.ownsRow base e size v n xs)(m:Nat):(W.drewN m).ownsRow base e size v n xs:=h
theorem below_set{w W:World}{g j:Nat}{v:Value}(h:Below w.heap.size w W)(hg:w.heap.size<=g):Below w.heap.size w (W.setCell ⟨g,j,none⟩ v):=h.setCell hg _
theorem cell_far{W:World}{p a:Addr}(h:a.block≠p.block)(u:Value):(W.setCell p u).cell? a=W.cell? a:=by
 have:=Below.heap_setCell W p u a.block h;simp[World.cell?,this]
theorem blk_put{w:World}{g:Nat}{t:TypeId}{cs cs':Array Value}(h:w.heap[g]? =some (.cells cs t (0,0)))(i:Nat)(u:Value)(e:cs.setIfInBounds i u=cs'):(w.setCell ⟨g,i,none⟩ u).heap[g]? =some (.cells cs' t (0,0)):=e▸blk_set h i u
theorem below_drew1{base:Nat}{w W:World}(h:Below base w W):Below base w W.drew:=h.drew
namespace Kd
section
variable {α:Type} {d:Kd α} {e base g:Nat} {ok:Nat->Prop} {w w1:World} {v:Value} {xs:List α} {o:Obj}
theorem freshB(hb:w.heap[g]? =some o): ∀k,w.heap.size<=k->k≠g:=fun k hk=>by have:=blk_lt hb;omega
end
end Kd
section
variable {P:Program} {ops:Array Oper} {rest:List Oper} {o:Oper} {a:Act} {Q:Exit->Act->World->Prop}
theorem box_event{W:World}(hgd:o.guard=none){N:Tmp}(_hd:o.dst=some N){cs:Array Value}{t:TypeId}
 (hrun:(execOp a.eval o).run P W= .ok (.value (.pointer (some ⟨W.heap.size,0,none⟩))) (W.alloc (.cells cs t (0,0))))
 (h: ∀g,g=W.heap.size-> ∀w1,w1.heap[g]? =some (.cells cs t (0,0))->Below W.heap.size W w1->wpList P ops Q rest (a.put o.dst (.pointer (some ⟨g,0,none⟩))) w1):wpList P ops Q (o::rest) a W:=
 Kd.event_run hgd hrun (h _ rfl _ (blk_new W _) (below_alloc (Below.refl _ _) _))
end
namespace Kd
section
variable {α:Type} {enc:α->Value} {h1: ∀x,(enc x).oneCell'=true} {e base g n cap:Nat} {ok:Nat->Prop} {W:World} {xs:List α}
theorem R_celln(d:α)(h:(scalar enc h1).R e W base ok (.slice (some ⟨g,0,none⟩) n cap) xs)(i:Int)(h0:0<=i)(hi:i<n):W.cell? ⟨g,i.toNat,none⟩=some (enc (rdOf d xs i))/\W.frozen? ⟨g,i.toNat,none⟩=false:=by
 obtain⟨rfl,_⟩:=R_reads' h;exact R_cell d h i h0 hi
theorem R_putn(h:(scalar enc h1).R e W base ok (.slice (some ⟨g,0,none⟩) n cap) xs)(i:Int)(x:α):(scalar enc h1).R e (W.setCell ⟨g,i.toNat,none⟩ (enc x)) base ok (.slice (some ⟨g,0,none⟩) n cap) (xs.set i.toNat x):=by
 obtain⟨rfl,_⟩:=R_reads' h;exact(R_put h i x).1
end
end Kd
section
variable {P:Program} {ops:Array Oper} {rest:List Oper} {o:Oper} {a:Act} {Q:Exit->Act->World->Prop}
theorem store_event{W w1:World}(hgd:o.guard=none){t:TypeId}{p:Tmp}{v:Operand}(_ho:o.op= .store t (.tmp p) v)(hN:o.dst=none)
 (hrun:(execOp a.eval o).run P W= .ok .skip w1) (h: ∀w',w'=w1->wpList P ops Q rest a w'):wpList P ops Q (o::rest) a W:=by
 refine wpList_plain hgd fun K hK=>?_;unfold Oper.wp;rw[hrun];show K (a.put o.dst undef) w1;rw[hN];exact hK _ _ (h _ rfl)
end
namespace Kd
section
variable {α:Type} {enc:α->Value} {h1: ∀x,(enc x).oneCell'=true} {e base g n cap:Nat} {ok:Nat->Prop} {W:World} {xs:List α}
theorem R_putg(h:(scalar enc h1).R e W base ok (.slice (some ⟨g,0,none⟩) n cap) xs)(i:Int)(x:α):(scalar enc h1).R e (W.setCell ⟨g,i.toNat,none⟩ (enc x)) base ok (.slice (some ⟨g,0,none⟩) n cap) (xs.set i.toNat x)/\W.grownBy (W.setCell ⟨g,i.toNat,none⟩ (enc x)) (some g):=by
 obtain⟨rfl,_⟩:=R_reads' h;exact R_put h i x
end
end Kd
section
variable {P:Program} {ops:Array Oper} {rest:List Oper} {o:Oper} {a:Act} {Q:Exit->Act->World->Prop} {W:World}
theorem gate_dst{N:Tmp}(_hN:o.dst=some N)(h:wpList P ops Q (o::rest) a W):wpList P ops Q (o::rest) a W:=h
theorem gate_store{t:TypeId}{p:Tmp}{v:Operand}(_ho:o.op= .store t (.tmp p) v)(h:wpList P ops Q (o::rest) a W):wpList P ops Q (o::rest) a W:=h
end
section
variable {P:Program} {ops:Array Oper} {o:Oper} {a:Act} {Q:Exit->Act->World->Prop} {Kc:Act->World->Prop}
theorem event_step{W w1:World}{v:Value}(hw:Region.wanted o (yielded ops a.tmps)=true)(hrun:(execOp a.eval o).run P W= .ok (.value v) w1)(h:Kc (a.put o.dst v) w1):if Region.wanted o (yielded ops a.tmps)=true then Oper.wp P o a W Kc Q else Kc (a.put o.dst undef) W:=by
 rw[if_pos hw];unfold Oper.wp;rw[hrun];exact h
theorem box_step{W:World}(hw:Region.wanted o (yielded ops a.tmps)=true){N:Tmp}(_hd:o.dst=some N){cs:Array Value}{t:TypeId}
 (hrun:(execOp a.eval o).run P W= .ok (.value (.pointer (some ⟨W.heap.size,0,none⟩))) (W.alloc (.cells cs t (0,0))))
 (h: ∀g,g=W.heap.size-> ∀w1,w1.heap[g]? =some (.cells cs t (0,0))->Below W.heap.size W w1->Kc (a.put o.dst (.pointer (some ⟨g,0,none⟩))) w1):if Region.wanted o (yielded ops a.tmps)=true then Oper.wp P o a W Kc Q else Kc (a.put o.dst undef) W:=
 event_step hw hrun (h _ rfl _ (blk_new W _) (below_alloc (Below.refl _ _) _))
namespace Kd
variable {α:Type}
theorem R_lit_step(d:Kd α){w0 W:World}(base e:Nat)(hw:Region.wanted o (yielded ops a.tmps)=true){N:Tmp}(_hd:o.dst=some N){xs:List α}{inner:List Value}{ok okp:Nat->Prop}
 (hrun:(execOp a.eval o).run P W= .ok (.value (.slice (some ⟨W.heap.size,0,none⟩) xs.length xs.length)) (W.alloc (.cells inner.toArray e)))
 (hrep:Reps (d.M W base okp) d.sz xs inner) (hok: ∀k,okp k->ok k) (hfresh:ok W.heap.size) (HB:Below base w0 W) (hbase:base<=W.heap.size) (hm:xs.length<=9223372036854775807)
 (h: ∀v1 w1,d.R e w1 base ok v1 xs->Below base w0 w1->W.grownBy w1 none->(∃b,v1.ownBlock=some b/\W.heap.size<=b)->Kc (a.put o.dst v1) w1):if Region.wanted o (yielded ops a.tmps)=true then Oper.wp P o a W Kc Q else Kc (a.put o.dst undef) W:=by
 refine event_step hw hrun (h _ _ ⟨fun k hk=>?_,inner,?_,?_⟩ (HB.alloc hbase _) (World.grownBy_alloc W _ none) ⟨W.heap.size,by simp[Value.ownBlock],Nat.le_refl _⟩)
 ·have:W.heap.size=k:=by simpa[Value.ownBlock]using hk
  subst this;exact hfresh
 ·have h2:=World.ownsRow_lit (base:=base) (e:=e) (size:=d.sz) W inner.toArray xs.length hbase (by simpa[maxLen]using hm) (by simpa using hrep.1);simpa using h2
 ·refine hrep.imp_ (fun p c hp=>d.M_mono (fun k hk=>⟨hok k hk.1,fun he=>?_⟩) (M_below (d.M_bound hp) (below_alloc (Below.refl _ _) _)));have h3:k=W.heap.size:=by simpa[Value.ownBlock]using he
  have:=hk.2.2.1;omega
theorem R_make_step(d:Kd α){w0 W:World}(base e:Nat)(hw:Region.wanted o (yielded ops a.tmps)=true){N:Tmp}(hd:o.dst=some N)(t:TypeId)(x y:Operand)(ho:o.op= .makeSlice t x y)(n:Int)(hx:a.eval x= .int .i64 n)(hy:a.eval y= .int .i64 n)
 (ht:P.underlying t=some (.slice e)) (z:Value) (bytes:Nat) (hinfo:(P.info? e).map (fun i=>(i.zero,i.size,i.bytes))=some (some z,d.sz,bytes)) (hz:z.cells.size=d.sz) (hs0:0<d.sz) (hb0:0<bytes)
 (z0:α) {ok okp:Nat->Prop} (hzero:d.M W base okp z0 z.cells.toList) (hok: ∀k,okp k->ok k) (hfresh:ok W.heap.size) (h0:0<=n) (hl:n.toNat*bytes<=281474976710656) (HB:Below base w0 W) (hbase:base<=W.heap.size)
 (h: ∀v1 w1,d.R e w1 base ok v1 (List.replicate n.toNat z0)->Below base w0 w1->W.grownBy w1 none->(∃b,v1.ownBlock=some b/\W.heap.size<=b)->Kc (a.put o.dst v1) w1):if Region.wanted o (yielded ops a.tmps)=true then Oper.wp P o a W Kc Q else Kc (a.put o.dst undef) W:=by
 obtain⟨m,rfl⟩:=Int.eq_ofNat_of_zero_le h0;simp only[Int.toNat_natCast]at hl h;obtain⟨i0,hi,hzz⟩:=Option.map_eq_some_iff.1 hinfo;simp only[Prod.mk.injEq]at hzz;obtain⟨hz0,hz1,hz2⟩:=hzz;have hm:m<=281474976710656:=Nat.le_trans (Nat.le_mul_of_pos_right _ hb0) hl
 have hr:=run_make (P:=P) W t e i0 z ht hi hz0 .i64 .i64 (m:Int) (m:Int) (by omega) (by omega)
  (by
    have h3:((i0.bytes*m:Nat):Int)<=281474976710656:=by rw[hz2,Nat.mul_comm];omega
    rwa [Int.natCast_mul]at h3) (by omega)
 simp only[Int.toNat_natCast]at hr;rw[hz1]at hr
 refine R_lit_step d base e hw hd (xs:=List.replicate m z0) (inner:=(madeCells z.cells (m*d.sz)).toList) (okp:=okp) (ok:=ok) ?_ (reps_made hz hs0 hzero m) hok hfresh HB hbase (by simp;omega) h;simp[execOp,ho,hx,hy,hr]
theorem R_append_rows_step(d:Kd α){Rr:α->List Value->Prop}{w0 W:World}(base:Nat)(hw:Region.wanted o (yielded ops a.tmps)=true)(s x:Operand)(t e:TypeId)(z:Value)(bytes:Nat)
 (ho:o.op= .call { callee:= .builtin .append,args:= #[s,x],argTypes:= #[t,t] })
 (ht:P.underlying t=some (.slice e)) (hinfo:(P.info? e).map (fun i=>(i.zero,i.size,i.bytes))=some (some z,d.sz,bytes)) (hz:z.cells.size=d.sz) (hs0:0<d.sz) (hb0:0<bytes)
 (v:Value) (xs ys:List α) (A:Option Addr) (m c:Nat) (ok okp:Nat->Prop) (hs:a.eval s=v) (hx:a.eval x= .slice A m c)
 (HO:d.R e W base ok v xs) (HR:ReadsRow Rr d.sz W A m ys) (hKM: ∀x cs,Rr x cs->d.M W base okp x cs) (hokp: ∀k,okp k->ok k/\some k≠v.ownBlock) (hfresh: ∀k,W.heap.size<=k->ok k)
 (HB:Below base w0 W) (hbase:base<=W.heap.size) (hl:(xs.length+m)*bytes<=140737488355328)
 (h: ∀v1 w1,d.R e w1 base ok v1 (xs++ys)->Below base w0 w1->W.grownBy w1 v.ownBlock->(v1.ownBlock=v.ownBlock∨ ∃b,v1.ownBlock=some b/\W.heap.size<=b)->Kc (a.put o.dst v1) w1):
 if Region.wanted o (yielded ops a.tmps)=true then Oper.wp P o a W Kc Q else Kc (a.put o.dst undef) W:=by
 obtain⟨i0,hi,hzz⟩:=Option.map_eq_some_iff.1 hinfo;simp only[Prod.mk.injEq]at hzz;obtain⟨hz0,hz1,hz2⟩:=hzz;have hm:ys.length=m:=HR.1;have hlen:xs.length+m<=140737488355328:=Nat.le_trans (Nat.le_mul_of_pos_right _ hb0) hl;obtain⟨hok,inner,hown,hr⟩:=HO;have hrun: ∃v1 w1,(Builtin.append_ #[t,t] o.type #[v,.slice A m c]).run P W= .ok v1 w1/\d.R e w1 base ok v1 (xs++ys)/\W.grownBy w1 v.ownBlock/\(v1.ownBlock=v.ownBlock∨ ∃b,v1.ownBlock=some b/\W.heap.size<=b):=by
  rcases A with _|ad
  ·have h0:m=0:=by
    rcases Nat.eq_zero_or_pos m with h0|h0
    ·exact h0
    ·obtain⟨ad,h,_⟩:=HR.2.2 h0
     cases h
   subst h0;obtain rfl:ys= []:=List.eq_nil_of_length_eq_zero hm;refine⟨v,W,?_,by rw[List.append_nil];exact⟨hok,inner,hown,hr⟩,World.grownBy.refl W _,.inl rfl⟩;rcases hown.2 with⟨rfl,hn⟩|⟨g,cap,cur,rfl,_,_,hnc,_⟩
   ·simp[Builtin.append_,run_underlying ht,sizeOf,typeInfo,hi,Builtin.lenOf,Builtin.firstCells]
   ·simp[Builtin.append_,run_underlying ht,sizeOf,typeInfo,hi,Builtin.lenOf,Builtin.firstCells,hnc,storeCells]
  ·obtain⟨news,hnr,hnc⟩:=ReadsRow.inner_ HR;have hnM:Reps (d.M W base okp) d.sz ys news:=hnr.imp_ (fun p c hp=>hKM p c hp);have hone: ∀u∈news,u.oneCell'=true:=by
    intro u hu;obtain⟨q,hq,rfl⟩:=List.mem_iff_getElem.1 hu;have hql:q / d.sz<ys.length:=by
     rw[Nat.div_lt_iff_lt_mul hs0];rw[<-hnM.1];exact hq
    have hc:=hnM.2 (q / d.sz) _ (List.getElem?_eq_getElem hql);refine d.K_one (d.K_of_M hc) _ ?_;rw[List.mem_iff_getElem?];refine⟨q % d.sz,?_⟩;rw[List.getElem?_take,if_pos (Nat.mod_lt _ hs0),List.getElem?_drop,Nat.mul_comm,Nat.div_add_mod,List.getElem?_eq_getElem hq]
   obtain⟨v1,w1,hrun,h2,hg,_,hat⟩:=run_append_own_at (P:=P) W base t o.type e i0 z d.sz bytes ht hi hz0 hz1 hz2 hz hs0 v xs.length inner hown ad m c news (by rw[hnM.1,hm]) hnc hone (by simp only[maxLen];omega) hl hbase;have hat':v1.ownBlock=v.ownBlock∨ ∃b,v1.ownBlock=some b/\W.heap.size<=b:=by
    rcases hat with hat|hat
    ·exact .inl hat
    ·exact .inr ⟨_,hat,Nat.le_refl _⟩
   have hne: ∀k,some k≠v.ownBlock->k<W.heap.size->some k≠v1.ownBlock:=by
    intro k hk hlt;rcases hat' with hat|⟨b,hb,hle⟩
    ·rw[hat];exact hk
    ·rw[hb];intro he;injection he with he;omega
   have step: ∀ {q:α} {c:List Value} {o:Nat->Prop},d.M W base o q c->(∀k,o k->ok k/\some k≠v.ownBlock)->d.M w1 base (fun k=>ok k/\some k≠v1.ownBlock) q c:=by
    intro q c o hq ho;have h1:=d.M_move (w1:=w1) (fun k hk=>hg.block k hk.2.2.1 (ho k hk.1).2) (d.M_bound hq);exact d.M_mono (fun k hk=>⟨(ho k hk.1).1,hne k (ho k hk.1).2 hk.2.2.1⟩) h1
   refine⟨v1,w1,hrun,⟨fun k hk=>?_,inner++news,by rw[List.length_append,hm];exact h2,reps_append (hr.imp_ (fun _ _ hq=>step hq (fun _ hk=>hk))) (hnM.imp_ (fun _ _ hq=>step hq hokp))⟩,hg,hat'⟩;rcases hat' with hat|⟨b,hb,hle⟩
   ·exact hok k (hat▸hk)
   ·rw[hb]at hk
    injection hk with hk;exact hfresh k (by omega)
 obtain⟨v1,w1,hr1,h1,hg,hat⟩:=hrun;rw[if_pos hw];unfold Oper.wp execOp;simp only[ho,resolve,invoke,builtin,Sem.run_bind,Sem.run_pure,Result.andThen_ok,List.map_toArray,List.map_cons,List.map_nil,hs,hx,hr1];exact h v1 w1 h1 (HB.grown hg hbase (own_base hown)) hg hat
end Kd
end
inductive Vals (P:Program) (tmps:Array Value) (w:World):List ResultVar->List Value->Prop where
 |nil:Vals P tmps w [] []
 |tmp {u:Tmp} {rs:List ResultVar} {vs:List Value} (h:Vals P tmps w rs vs):Vals P tmps w (.tmp u::rs) (tmps.getD u undef::vs)
 |cell {p:Tmp} {ty:TypeId} {rs:List ResultVar} {vs:List Value} (g:Nat) (t:TypeId) (cs:Array Value) (fr:Nat×Nat) (d:TypeDesc)
   (hp:tmps.getD p undef= .pointer (some ⟨g,0,none⟩)) (hg:w.heap[g]? =some (.cells cs t fr))
   (hu:P.underlying ty=some d) (hd:(match d with| .struct _| .array _ _=>true|_=>false)=true) (hi:(P.info? ty).map (·.size)=some cs.size)
   (h:Vals P tmps w rs vs):Vals P tmps w (.cell p ty::rs) (.agg cs::vs)
section
variable {P:Program} {tmps:Array Value} {w:World}
theorem vals_run{rs:List ResultVar}{vs:List Value}(hv:Vals P tmps w rs vs)(f:ResultVar->Sem Value)(hf: ∀u,f (.tmp u)=pure (tmps.getD u undef))(hc: ∀a t,f (.cell a t)=(do loadVar t (<-asAddr (tmps.getD a undef)))):
 (rs.mapM f).run P w= .ok vs w:=by
 induction hv with
 |nil=>simp
 |tmp h ih=>simp[List.mapM_cons,hf,ih]
 |cell g t cs fr d hp hg hu hd hi h ih=>
  rw[List.mapM_cons,hc,hp];simp[asAddr,run_loadVar_row w g t _ cs fr d hg hu hd hi,ih]
theorem results_list{fn:Func}{rs:List ResultVar}{vs:List Value}(h:fn.results=rs.toArray)(hl:vs.length≠1)(hv:Vals P tmps w rs vs):(results fn tmps).run P w= .ok (.tuple vs.toArray) w:=by
 unfold results;rw[h,List.mapM_toArray];simp only[Sem.run_bind,Sem.run_map];rw[vals_run hv]
 ·simp[hl]
 ·intro u;rfl
 ·intro a t;rfl
end
namespace Kd
end Kd
end Go.Proofs.YtjgcocfnilhggaaDoorW.PrintWords
namespace Go.Proofs.YtjgcocfnilhggaaDoorW.PrintLast
section
variable {P:Program} {ops:Array Oper} {Q:Exit->Act->World->Prop} {md:Region.Mode} {S:World->Prop} {ds:List Nat}
def Region.reachB(md:Region.Mode)(ops:Array Oper)(i:Nat):Nat->Nat->Bool
 |0,_=>false
 |fuel+1,d=>match ops[d]? with
  |some o=>o.after.any fun e=>Region.binds md e&&(e.on==i||Region.reachB md ops i fuel e.on)
  |none=>false
def Region.closedB(md:Region.Mode)(ops:Array Oper)(listed:Array Bool):Bool:=
 (List.range ops.size).all fun j=> !listed.getD j false||match ops[j]? with
   |some o=>o.after.all fun e=> !Region.binds md e||listed.getD e.on false
   |none=>true
def Region.lastB(md:Region.Mode)(ops:Array Oper)(listed:Array Bool)(ds:List Nat)(i:Nat):Bool:=
 ds.all fun d=>listed.getD d true||Region.reachB md ops i ops.size d
def ListedClosed(md:Region.Mode)(ops:Array Oper)(listed:Array Bool):Prop:=
 ∀j oj,ops[j]? =some oj->listed.getD j false=true-> ∀e∈oj.after,Region.binds md e=true->listed.getD e.on false=true
theorem Region.closedB_spec{listed:Array Bool}(h:Region.closedB md ops listed=true):ListedClosed md ops listed:=by
 intro j oj hj hl e he hb;have hlt:j<ops.size:=(Array.getElem?_eq_some_iff.1 hj).1;have h1:=List.all_eq_true.1 h j (List.mem_range.2 hlt);simp only[hl,hj,Bool.not_true,Bool.false_or]at h1;have h2:=Array.all_eq_true_iff_forall_mem.1 h1 e he;simpa[hb]using h2
theorem ListedClosed.set{listed:Array Bool}{i:Nat}(h:ListedClosed md ops listed)(hi:i∈Region.ready md ops listed):ListedClosed md ops (listed.setIfInBounds i true):=by
 obtain⟨_,oi,hoi,hall⟩:=mem_ready.1 hi;intro j oj hj hl e he hb;by_cases hij:i=j
 case neg=>rw[getD_set_ne false hij]at hl;exact getD_set_true (h j oj hj hl e he hb)
 subst hij;have:oj=oi:=Option.some.inj (hj.symm.trans hoi);subst this;exact getD_set_true (hall e he hb)
theorem Region.reach_listed{listed:Array Bool}{i:Nat}(hc:ListedClosed md ops listed): ∀(fuel d:Nat),Region.reachB md ops i fuel d=true->listed.getD d false=true->listed.getD i false=true
 |0,_,h,_=>by simp[Region.reachB]at h
 |fuel+1,d,h,hl=>by
  unfold Region.reachB at h
  cases ho:ops[d]? with
  |none=>rw[ho]at h;simp at h
  |some o=>
   rw[ho]at h
   obtain⟨e,he,h1⟩:=Array.any_eq_true'.1 h;simp only[Bool.and_eq_true,Bool.or_eq_true,beq_iff_eq]at h1;have hle:=hc d o ho hl e he h1.1;rcases h1.2 with h2|h2
   ·rw[<-h2];exact hle
   ·exact Region.reach_listed hc fuel e.on h2 hle
theorem Region.reach_not_ready{listed:Array Bool}{i d fuel:Nat}(hc:ListedClosed md ops listed)(hr:Region.reachB md ops i fuel d=true)(hun:listed.getD i true=false):d∉Region.ready md ops listed:=by
 intro hd;obtain⟨_,o,ho,hall⟩:=mem_ready.1 hd;have hi:listed.getD i false=true:=by
  cases fuel with
  |zero=>simp[Region.reachB]at hr
  |succ n=>
   unfold Region.reachB at hr;rw[ho]at hr
   obtain⟨e,he,h1⟩:=Array.any_eq_true'.1 hr;simp only[Bool.and_eq_true,Bool.or_eq_true,beq_iff_eq]at h1;have hle:=hall e he h1.1;rcases h1.2 with h2|h2
   ·rw[<-h2];exact hle
   ·exact Region.reach_listed hc n e.on h2 hle
 rcases Nat.lt_or_ge i listed.size with h'|h'
 ·simp[h']at hun hi
  rw[hun]at hi
  cases hi
 ·simp[Array.getElem?_eq_none h']at hun
def wpAnyLast(P:Program)(md:Region.Mode)(ops:Array Oper)(Q:Exit->Act->World->Prop)(S:World->Prop)(ds:List Nat):Nat->Array Bool->Act->World->Prop
 |0,listed,a,w=>Region.ready md ops listed= []/\Q .normal a w
 |fuel+1,listed,a,w=>
  (Region.ready md ops listed= []->Q .normal a w)/\
  ∀i∈Region.ready md ops listed,wpOp P ops Q i (fun a' w'=>(i∉ds->S w->S w')/\wpAnyLast P md ops Q S ds fuel (listed.setIfInBounds i true) a' w') a w
theorem wpAny_of_last: ∀(fuel:Nat) (listed:Array Bool) (a:Act) (w:World),wpAnyLast P md ops Q S ds fuel listed a w->wpAny P md ops Q fuel listed a w
 |0,_,_,_,h=>h
 |fuel+1,_,_,_,h=>⟨h.1,fun i hi=>wpOp_mono (fun a' w' h'=>wpAny_of_last fuel _ a' w' h'.2) (h.2 i hi)⟩
theorem wpAnyLast_first{i:Nat}{oi:Oper}{v:Value}(hi:ops[i]? =some oi)(hsel: ∀(j:Nat) (o:Oper) cs b,ops[j]? =some o->o.op≠ .select cs b)
 (hQ: ∀c a w,Q (.panic c) (a.put oi.dst v) w->Q (.panic c) a w) (n:Nat):
 ∀(fuel:Nat) (listed:Array Bool) (a:Act) (w:World),
  (∀j oj,ops[j]? =some oj->j≠i->listed.getD j true=false->(∀e∈oj.after,Region.binds md e=true->e.on≠i)->oi.apart ops oj=true)->
  ListedClosed md ops listed->(∀d∈ds,listed.getD d true=false->Region.reachB md ops i n d=true)->
  i∈Region.ready md ops listed->YieldsIf P ops S oi v a->S w->
  wpAnyLast P md ops Q S ds fuel (listed.setIfInBounds i true) (a.put oi.dst v) w->wpAnyLast P md ops Q S ds (fuel+1) listed a w:=by
 intro fuel
 induction fuel with
 |zero=>
  intro listed a w _ _ _ hr hy hS H;refine⟨fun h=>(by rw[h]at hr;cases hr),fun j hj=>?_⟩;by_cases hji:j=i
  ·subst hji;exact hy.wpOp hi hS ⟨fun _ h=>h,H⟩
  have:=ready_mono hj hji;rw[H.1]at this
  cases this
 |succ fuel ih=>
  intro listed a w hfree hc hd hr hy hS H;refine⟨fun h=>(by rw[h]at hr;cases hr),fun j hj=>?_⟩;by_cases hji:j=i
  ·subst hji;exact hy.wpOp hi hS ⟨fun _ h=>h,H⟩
  have h1:=H.2 j (ready_mono hj hji);obtain⟨hjun,oj,hoj,hall⟩:=mem_ready.1 hj;have hiun:=(mem_ready.1 hr).1;have hnot: ∀e∈oj.after,Region.binds md e=true->e.on≠i:=fun e he hb heq=>by
   have h1:=hall e he hb;rw[heq]at h1
   rcases Nat.lt_or_ge i listed.size with h'|h'
   ·simp[h']at hiun h1;rw[hiun]at h1;cases h1
   ·simp[Array.getElem?_eq_none h']at h1
  have hjd:j∉ds:=fun hm=>Region.reach_not_ready hc (hd j hm hjun) hiun hj;have h2:=wpOp_putIf hoj (hfree j oj hoj hji hjun hnot) (fun cs b=>hsel i oi cs b hi) (fun cs b=>hsel j oj cs b hoj) hQ hy h1
  have hfree': ∀k ok,ops[k]? =some ok->k≠i->(listed.setIfInBounds j true).getD k true=false->
   (∀e∈ok.after,Region.binds md e=true->e.on≠i)->oi.apart ops ok=true:=fun k ok hk hki hun hno=>by
   refine hfree k ok hk hki ?_ hno;by_cases hjk:j=k
   case neg=>rw[getD_set_ne true hjk]at hun;exact hun
   subst hjk;exact hjun
  have hd': ∀d∈ds,(listed.setIfInBounds j true).getD d true=false->Region.reachB md ops i n d=true:=fun d hm hun=>by
   refine hd d hm ?_;by_cases hjk:j=d
   case neg=>rw[getD_set_ne true hjk]at hun;exact hun
   subst hjk;exact hjun
  refine wpOp_mono (fun a' w' h3=>⟨h3.2.1,ih (listed.setIfInBounds j true) a' w' hfree' (hc.set hj) hd' (ready_mono hr (Ne.symm hji)) h3.1 (h3.2.1 hjd hS) ?_⟩) h2;rw[Array.setIfInBounds_comm _ _ hji];exact h3.2.2
theorem wpAnyLast_any{i:Nat}{oi:Oper}{v:Value}(hi:ops[i]? =some oi)(hsel: ∀(j:Nat) (o:Oper) cs b,ops[j]? =some o->o.op≠ .select cs b)
 (hQ: ∀c a w,Q (.panic c) (a.put oi.dst v) w->Q (.panic c) a w):
 ∀(fuel:Nat) (listed:Array Bool) (a:Act) (w:World),
  (∀j oj,ops[j]? =some oj->j≠i->listed.getD j true=false->(∀e∈oj.after,Region.binds md e=true->e.on≠i)->oi.apart ops oj=true)->
  i∈Region.ready md ops listed->Yields P ops oi v a->
  wpAnyLast P md ops Q S ds fuel (listed.setIfInBounds i true) (a.put oi.dst v) w->wpAnyLast P md ops Q S ds (fuel+1) listed a w:=by
 intro fuel
 induction fuel with
 |zero=>
  intro listed a w _ hr hy H;refine⟨fun h=>(by rw[h]at hr;cases hr),fun j hj=>?_⟩;by_cases hji:j=i
  ·subst hji;exact(hy.yieldsIf (S:=fun _=>True)).wpOp hi trivial ⟨fun _ h=>h,H⟩
  have:=ready_mono hj hji;rw[H.1]at this
  cases this
 |succ fuel ih=>
  intro listed a w hfree hr hy H;refine⟨fun h=>(by rw[h]at hr;cases hr),fun j hj=>?_⟩;by_cases hji:j=i
  ·subst hji;exact(hy.yieldsIf (S:=fun _=>True)).wpOp hi trivial ⟨fun _ h=>h,H⟩
  have h1:=H.2 j (ready_mono hj hji);obtain⟨hjun,oj,hoj,hall⟩:=mem_ready.1 hj;have hiun:=(mem_ready.1 hr).1;have hnot: ∀e∈oj.after,Region.binds md e=true->e.on≠i:=fun e he hb heq=>by
   have h1:=hall e he hb;rw[heq]at h1
   rcases Nat.lt_or_ge i listed.size with h'|h'
   ·simp[h']at hiun h1;rw[hiun]at h1;cases h1
   ·simp[Array.getElem?_eq_none h']at h1
  have h2:=wpOp_put hoj (hfree j oj hoj hji hjun hnot) (fun cs b=>hsel i oi cs b hi) (fun cs b=>hsel j oj cs b hoj) hQ hy h1
  have hfree': ∀k ok,ops[k]? =some ok->k≠i->(listed.setIfInBounds j true).getD k true=false->
   (∀e∈ok.after,Region.binds md e=true->e.on≠i)->oi.apart ops ok=true:=fun k ok hk hki hun hno=>by
   refine hfree k ok hk hki ?_ hno;by_cases hjk:j=k
   case neg=>rw[getD_set_ne true hjk]at hun;exact hun
   subst hjk;exact hjun
  refine wpOp_mono (fun a' w' h3=>⟨h3.2.1,ih (listed.setIfInBounds j true) a' w' hfree' (ready_mono hr (Ne.symm hji)) h3.1 ?_⟩) h2;rw[Array.setIfInBounds_comm _ _ hji];exact h3.2.2
theorem wpAnyLast_take{i:Nat}{oi:Oper}{v:Value}{fuel:Nat}{listed:Array Bool}{a:Act}{w:World}(hi:ops[i]? =some oi)
 (hs:Region.noSelect ops=true) (hf:Region.free md ops listed i=true) (hr:(Region.ready md ops listed).contains i=true)
 (hc:Region.closedB md ops listed=true) (hl:Region.lastB md ops listed ds i=true)
 (hQ: ∀c a w,Q (.panic c) (a.put oi.dst v) w->Q (.panic c) a w) (hy:YieldsIf P ops S oi v a) (hS:S w)
 (h:wpAnyLast P md ops Q S ds fuel (listed.setIfInBounds i true) (a.put oi.dst v) w):wpAnyLast P md ops Q S ds (fuel+1) listed a w:=
 wpAnyLast_first hi (Region.noSelect_spec hs) hQ ops.size fuel listed a w (Region.free_spec hi hf) (Region.closedB_spec hc)
  (fun d hm hun=>by have:=List.all_eq_true.1 hl d hm;rw[hun]at this;simpa using this) (by simpa using hr) hy hS h
theorem wpAnyLast_all{rs:List Nat}{fuel:Nat}{listed:Array Bool}{a:Act}{w:World}(hr:Region.ready md ops listed=rs)(hne:rs≠ [])
 (h: ∀i∈rs,wpOp P ops Q i (fun a' w'=>(i∉ds->S w->S w')/\wpAnyLast P md ops Q S ds fuel (listed.setIfInBounds i true) a' w') a w):wpAnyLast P md ops Q S ds (fuel+1) listed a w:=
 ⟨fun h0=>absurd (hr▸h0) hne,hr▸h⟩
theorem wpAnyLast_done{listed:Array Bool}{a:Act}{w:World}(hr:Region.ready md ops listed= [])(h:Q .normal a w):
 ∀fuel,wpAnyLast P md ops Q S ds fuel listed a w
 |0=>⟨hr,h⟩
 |_+1=>⟨fun _=>h,by rw[hr];simp⟩
theorem wp_region_last{id:Nat}{a:Act}{w:World}(hm:P.follows .mixedOrders=true)
 (h:wpAnyLast P .any ops Q S ds ops.size (Array.replicate ops.size false) a { w with drawn:=w.drawn+1 }):(Code.region id ops true).wp P Q a w:=
 wp_region_any hm (wpAny_of_last _ _ _ _ h)
end
section
variable {P:Program} {ops:Array Oper} {Q:Exit->Act->World->Prop} {md:Region.Mode} {S:World->Prop} {ds:List Nat}
def AllReadyL(P:Program)(md:Region.Mode)(ops:Array Oper)(Q:Exit->Act->World->Prop)(S:World->Prop)(ds:List Nat)(fuel:Nat)(listed:Array Bool)(a:Act)(w:World)(rs:List Nat):Prop:=
 ∀i∈rs,wpOp P ops Q i (fun a' w'=>(i∉ds->S w->S w')/\wpAnyLast P md ops Q S ds fuel (listed.setIfInBounds i true) a' w') a w
theorem AllReadyL.nil{fuel:Nat}{listed:Array Bool}{a:Act}{w:World} :AllReadyL P md ops Q S ds fuel listed a w []:=fun _ h=>by cases h
theorem AllReadyL.cons{fuel:Nat}{listed:Array Bool}{a:Act}{w:World}{i:Nat}{o:Oper}{rs:List Nat}(ho:ops[i]? =some o)(hd:i∉ds)
 (h: ∀K':Act->World->Prop,Shut (∀a w,S w->(S w->wpAnyLast P md ops Q S ds fuel (listed.setIfInBounds i true) a w)->K' a w)->if Region.wanted o (yielded ops a.tmps)=true then Oper.wp P o a w K' Q else K' (a.put o.dst undef) w)
 (hs:AllReadyL P md ops Q S ds fuel listed a w rs):AllReadyL P md ops Q S ds fuel listed a w (i::rs):=fun j hj=>by
 rcases List.mem_cons.1 hj with rfl|hj
 ·exact wpOp_step ho (fun K' hK=>h K' (fun a w hS hW=>hK a w ⟨fun _ _=>hS,hW hS⟩))
 ·exact hs j hj
theorem AllReadyL.cons_last{fuel:Nat}{listed:Array Bool}{a:Act}{w:World}{i:Nat}{o:Oper}{rs:List Nat}(ho:ops[i]? =some o)(hd:i∈ds)
 (h: ∀K':Act->World->Prop,Shut (∀a w,wpAnyLast P md ops Q S ds fuel (listed.setIfInBounds i true) a w->K' a w)->if Region.wanted o (yielded ops a.tmps)=true then Oper.wp P o a w K' Q else K' (a.put o.dst undef) w)
 (hs:AllReadyL P md ops Q S ds fuel listed a w rs):AllReadyL P md ops Q S ds fuel listed a w (i::rs):=fun j hj=>by
 rcases List.mem_cons.1 hj with rfl|hj
 ·exact wpOp_step ho (fun K' hK=>h K' (fun a w hW=>hK a w ⟨fun hn=>absurd hd hn,hW⟩))
 ·exact hs j hj
theorem wpAnyLast_ready{rs:List Nat}{fuel:Nat}{listed:Array Bool}{a:Act}{w:World}(hr:Region.ready md ops listed=rs)(hne:rs≠ [])
 (h:AllReadyL P md ops Q S ds fuel listed a w rs):wpAnyLast P md ops Q S ds (fuel+1) listed a w:=wpAnyLast_all hr hne h
theorem start_{id n:Nat}{a:Act}{w:World}(l:Array Bool)(hm:P.follows .mixedOrders=true)(hn:ops.size=n)(hl:Array.replicate n false=l)(hS:S w.drew)
 (h:S w.drew->wpAnyLast P .any ops Q S ds n l a w.drew):(Code.region id ops true).wp P Q a w:=by
 subst hn;subst hl;exact wp_region_last hm (h hS)
def takeB(md:Region.Mode)(ops:Array Oper)(ds:List Nat)(l l':Array Bool)(i:Nat):Bool:=
 Region.noSelect ops&&Region.free md ops l i&&(Region.ready md ops l).contains i&&Region.closedB md ops l&&Region.lastB md ops l ds i&&(l.setIfInBounds i true==l')
theorem take_{i:Nat}{N:Option Tmp}{oi:Oper}{v:Value}{fuel:Nat}{l:Array Bool}{a:Act}{w:World}(l':Array Bool)(hi:ops[i]? =some oi)(hN:oi.dst=N)(hc:takeB md ops ds l l' i=true)
 (hQ: ∀c a w,Q (.panic c) (a.put oi.dst v) w->Q (.panic c) a w) (hy:YieldsIf P ops S oi v a) (hS:S w) {a':Act} (ha:a.put N v=a')
 (h:wpAnyLast P md ops Q S ds fuel l' a' w):wpAnyLast P md ops Q S ds (fuel+1) l a w:=by
 subst ha;subst hN;simp only[takeB,Bool.and_eq_true,beq_iff_eq]at hc;obtain⟨⟨⟨⟨⟨h1,h2⟩,h3⟩,h4⟩,h5⟩,h6⟩:=hc;subst h6;exact wpAnyLast_take hi h1 h2 h3 h4 h5 hQ hy hS h
def anyB(md:Region.Mode)(ops:Array Oper)(l l':Array Bool)(i:Nat):Bool:=
 Region.noSelect ops&&Region.free md ops l i&&(Region.ready md ops l).contains i&&(l.setIfInBounds i true==l')
theorem pure_{i:Nat}{N:Option Tmp}{oi:Oper}{v:Value}{fuel:Nat}{l:Array Bool}{a:Act}{w:World}(l':Array Bool)(hi:ops[i]? =some oi)(hN:oi.dst=N)(hc:anyB md ops l l' i=true)
 (hQ: ∀c a w,Q (.panic c) (a.put oi.dst v) w->Q (.panic c) a w) (hy:Yields P ops oi v a) {a':Act} (ha:a.put N v=a')
 (h:wpAnyLast P md ops Q S ds fuel l' a' w):wpAnyLast P md ops Q S ds (fuel+1) l a w:=by
 subst ha;subst hN;simp only[anyB,Bool.and_eq_true,beq_iff_eq]at hc;obtain⟨⟨⟨h1,h2⟩,h3⟩,h6⟩:=hc;subst h6;exact wpAnyLast_any hi (Region.noSelect_spec h1) hQ fuel l a w (Region.free_spec hi h2) (by simpa using h3) hy h
def readyB(md:Region.Mode)(ops:Array Oper)(l l':Array Bool)(i:Nat):Bool:=(Region.ready md ops l== [i])&&(l.setIfInBounds i true==l')
theorem one_{i:Nat}{N:Option Tmp}{oi:Oper}{fuel:Nat}{l:Array Bool}{a:Act}{w:World}(l':Array Bool)(hi:ops[i]? =some oi)(hN:oi.dst=N)(hc:readyB md ops l l' i=true)(hd:i∉ds)
 (h: ∀K:Act->World->Prop,Shut (∀a' w',S w'->(S w'->wpAnyLast P md ops Q S ds fuel l' a' w')->K a' w')->if Region.wanted oi (yielded ops a.tmps)=true then Oper.wp P oi a w K Q else K (a.put N undef) w):
 wpAnyLast P md ops Q S ds (fuel+1) l a w:=by
 subst hN;simp only[readyB,Bool.and_eq_true,beq_iff_eq]at hc;obtain⟨h1,h2⟩:=hc;subst h2;exact wpAnyLast_ready h1 (by simp) (AllReadyL.cons hi hd (fun K hK=>h K hK) AllReadyL.nil)
theorem last_{i:Nat}{N:Option Tmp}{oi:Oper}{fuel:Nat}{l:Array Bool}{a:Act}{w:World}(l':Array Bool)(hi:ops[i]? =some oi)(hN:oi.dst=N)(hc:readyB md ops l l' i=true)(hd:i∈ds)
 (h: ∀K:Act->World->Prop,Shut (∀a' w',wpAnyLast P md ops Q S ds fuel l' a' w'->K a' w')->if Region.wanted oi (yielded ops a.tmps)=true then Oper.wp P oi a w K Q else K (a.put N undef) w):
 wpAnyLast P md ops Q S ds (fuel+1) l a w:=by
 subst hN;simp only[readyB,Bool.and_eq_true,beq_iff_eq]at hc;obtain⟨h1,h2⟩:=hc;subst h2;exact wpAnyLast_ready h1 (by simp) (AllReadyL.cons_last hi hd (fun K hK=>h K hK) AllReadyL.nil)
theorem done_{l:Array Bool}{a:Act}{w:World}{n:Nat}(hr:(Region.ready md ops l== [])=true)(h:Q .normal a w):wpAnyLast P md ops Q S ds n l a w:=wpAnyLast_done (by simpa using hr) h n
theorem two_{i j:Nat}{Ni Nj:Option Tmp}{oi oj:Oper}{fuel:Nat}{l:Array Bool}{a:Act}{w:World}(li lj:Array Bool)(hi:ops[i]? =some oi)(hj:ops[j]? =some oj)(hNi:oi.dst=Ni)(hNj:oj.dst=Nj)
 (hc:(Region.ready md ops l== [i,j]&&l.setIfInBounds i true==li&&l.setIfInBounds j true==lj)=true) (hdi:i∉ds) (hdj:j∉ds)
 (h1: ∀K:Act->World->Prop,Shut (∀a' w',S w'->(S w'->wpAnyLast P md ops Q S ds fuel li a' w')->K a' w')->if Region.wanted oi (yielded ops a.tmps)=true then Oper.wp P oi a w K Q else K (a.put Ni undef) w)
 (h2: ∀K:Act->World->Prop,Shut (∀a' w',S w'->(S w'->wpAnyLast P md ops Q S ds fuel lj a' w')->K a' w')->if Region.wanted oj (yielded ops a.tmps)=true then Oper.wp P oj a w K Q else K (a.put Nj undef) w):
 wpAnyLast P md ops Q S ds (fuel+1) l a w:=by
 subst hNi;subst hNj;simp only[Bool.and_eq_true,beq_iff_eq]at hc;obtain⟨⟨h3,h4⟩,h5⟩:=hc;subst h4;subst h5;exact wpAnyLast_ready h3 (by simp) (AllReadyL.cons hi hdi (fun K hK=>h1 K hK) (AllReadyL.cons hj hdj (fun K hK=>h2 K hK) AllReadyL.nil))
def putAll:Act->List (Tmp×Value)->Act
 |a,[]=>a
 |a,(n,v)::r=>putAll (a.put (some n) v) r
theorem join_{σ:Type}{fuel:Nat}{l:Array Bool}{a:Act}{w:World}(fuel':Nat)(l':Array Bool)(ns:σ->List (Tmp×Value))(F:σ->World->Prop)
 (hcont: ∀s w',F s w'->wpAnyLast P md ops Q S ds fuel' l' (putAll a (ns s)) w')
 (h:(∀s w',F s w'->wpAnyLast P md ops Q S ds fuel' l' (putAll a (ns s)) w')->wpAnyLast P md ops Q S ds fuel l a w):wpAnyLast P md ops Q S ds fuel l a w:=h hcont
theorem norm_{fuel:Nat}{l:Array Bool}{a a':Act}{w:World}(ha:a=a')(h:wpAnyLast P md ops Q S ds fuel l a' w):wpAnyLast P md ops Q S ds fuel l a w:=by
 subst ha;exact h
theorem call_{oi:Oper}{N:Option Tmp}{a:Act}{w:World}{K:Act->World->Prop}(f:FuncId)(args:Array Value)(hw:Region.wanted oi (yielded ops a.tmps)=true)(hN:oi.dst=N)(hrun:(execOp a.eval oi).run P w= .ok (.enter f args) w)
 (h:Calls P f args w fun e w'=> ∃v,e= .returned v/\K (a.put N v) w'):if Region.wanted oi (yielded ops a.tmps)=true then Oper.wp P oi a w K Q else K (a.put N undef) w:=by
 rw[if_pos hw];subst hN;unfold Oper.wp;rw[hrun,Oper.upon_enter];refine h.mono fun e w'' hh=>?_;obtain⟨v,rfl,hk⟩:=hh;exact hk
theorem enters_{f:FuncId}{fn:Func}(hf:P.funcs[f]? =some fn)(hname:(fn.name== "runtime.NumGoroutine")=false)(hb:fn.body.isSome=true)(args:Array Value)(w:World):(callFunc f args).run P w= .ok (.enter f args) w:=by
 have h1:fn.name≠ "runtime.NumGoroutine" :=by simpa using hname
 obtain⟨c,hc⟩:=Option.isSome_iff_exists.1 hb;simp[callFunc,hf,h1,hc]
theorem goes_{oi:Oper}{N:Option Tmp}{a:Act}{w:World}{K:Act->World->Prop}{f:FuncId}{fn:Func}{asz:Array Operand}{ts:Array TypeId}(hf:P.funcs[f]? =some fn)(hname:(fn.name== "runtime.NumGoroutine")=false)(hb:fn.body.isSome=true)(args:Array Value)
 (hw:Region.wanted oi (yielded ops a.tmps)=true) (hN:oi.dst=N) (hop:oi.op= .call { callee:= .value (.func f),args:=asz,argTypes:=ts }) (hargs:asz.map a.eval=args)
 (h:Calls P f args w fun e w'=> ∃v,e= .returned v/\K (a.put N v) w'):if Region.wanted oi (yielded ops a.tmps)=true then Oper.wp P oi a w K Q else K (a.put N undef) w:=by
 refine call_ f args hw hN ?_ h;have he:=enters_ hf hname hb args w;unfold execOp;simp[hop,resolve,Deferred.ofValue,invoke,Act.eval,hargs,he]
theorem goesL_{rest:List Oper}{oi:Oper}{a:Act}{w:World}(N:Option Tmp)(hd:oi.dst=N)(hg:oi.guard=none){f:FuncId}{fn:Func}{asz:Array Operand}{ts:Array TypeId}(hf:P.funcs[f]? =some fn)(hname:(fn.name== "runtime.NumGoroutine")=false)(hb:fn.body.isSome=true)(args:Array Value)
 (hop:oi.op= .call { callee:= .value (.func f),args:=asz,argTypes:=ts }) (hargs:asz.map a.eval=args)
 (h:Calls P f args w fun e w'=> ∃v,e= .returned v/\wpList P ops Q rest (a.put N v) w'):wpList P ops Q (oi::rest) a w:=by
 refine wpList_plain hg fun K hK=>?_;have he:=enters_ hf hname hb args w;have hrun:(execOp a.eval oi).run P w= .ok (.enter f args) w:=by
  unfold execOp;simp[hop,resolve,Deferred.ofValue,invoke,Act.eval,hargs,he]
 unfold Oper.wp;rw[hrun,Oper.upon_enter];refine h.mono fun e w'' hh=>?_;obtain⟨v,rfl,hk⟩:=hh;subst hd;exact hK _ _ hk
theorem value_{oi:Oper}{N:Option Tmp}{a:Act}{w w1:World}{v:Value}{K:Act->World->Prop}(hw:Region.wanted oi (yielded ops a.tmps)=true)(hN:oi.dst=N)(hrun:(execOp a.eval oi).run P w= .ok (.value v) w1)
 (h:K (a.put N v) w1):if Region.wanted oi (yielded ops a.tmps)=true then Oper.wp P oi a w K Q else K (a.put N undef) w:=by
 rw[if_pos hw];subst hN;unfold Oper.wp;rw[hrun];exact h
theorem skip_{oi:Oper}{a:Act}{w w1:World}{K:Act->World->Prop}(hw:Region.wanted oi (yielded ops a.tmps)=true)(hN:oi.dst=none)(hrun:(execOp a.eval oi).run P w= .ok .skip w1)
 (h:K a w1):if Region.wanted oi (yielded ops a.tmps)=true then Oper.wp P oi a w K Q else K (a.put none undef) w:=by
 rw[if_pos hw];unfold Oper.wp;rw[hrun];show K (a.put oi.dst undef) w1;rw[hN];exact h
theorem i64_w(n:Int):IntKind.i64.wrap n=Go.RowKit.wrap64 n:=by unfold Go.RowKit.wrap64;exact IntKind.wrap_i64 n
theorem i32_w(n:Int):IntKind.i32.wrap n=Go.RowKit.wrap32 n:=by unfold Go.RowKit.wrap32;exact IntKind.wrap_i32 n
end
end Go.Proofs.YtjgcocfnilhggaaDoorW.PrintLast
namespace Go.Proofs.YtjgcocfnilhggaaDoorW.PrintWords
open RowKit
namespace Kd
def raw(sz:Nat):Kd (List Value) where
 sz:=sz
 E:= []
 K:=fun _ x cs=>cs=x/\cs.length=sz/\ ∀u∈cs,u.oneCell'=true
 M:=fun _ _ _ x cs=>cs=x/\cs.length=sz/\ ∀u∈cs,u.oneCell'=true
 K_len:=fun h=>h.2.1
 K_one:=fun h=>h.2.2
 K_below:=fun _ h=>h
 K_of_M:=fun h=>h
 M_mono:=fun _ h=>h
 M_bound:=fun h=>h
 M_move:=fun _ h=>h
 M_lower:=fun _ h=>h
section
variable {α β:Type} {d:Kd α} {d':Kd β} {e e':Nat} {w w1 W:World} {base b:Nat} {ok ok' okv oku:Nat->Prop} {u v:Value} {xs:List α} {ys:List β}
theorem R_tight(hE:d.E= [])(h:d.R e w base ok v xs):d.R e w base (fun k=>some k=v.ownBlock) v xs:=by
 obtain⟨h0,inner,ho,hr⟩:=h;refine⟨fun k hk=>hk.symm,inner,ho,hr.imp_ (fun p c hp=>d.M_mono (fun k hk=>?_) (d.M_bound hp))⟩;obtain⟨_,_,_,q,hq,_⟩:=hk;rw[hE]at hq
 cases hq
end
structure Heap {α:Type} (d:Kd α):Prop where
 K: ∀ {w w1:World} {x:α} {cs:List Value},(∀k,k<w.heap.size->w1.heap[k]? =w.heap[k]?)->d.K w x cs->d.K w1 x cs
theorem cell_heap{w w1:World}(hb: ∀k,k<w.heap.size->w1.heap[k]? =w.heap[k]?){a:Addr}{v:Value}(h:w.cell? a=some v):w1.cell? a=some v:=by
 have:=hb a.block (World.block_lt_of_cell? w a h);simpa[World.cell?,this]using h
theorem Heap.C{α:Type}{d:Kd α}(hd:Heap d){w w1:World}{A:Option Addr}{n:Nat}{xs:List α}(hb: ∀k,k<w.heap.size->w1.heap[k]? =w.heap[k]?)(h:d.C w A n xs):d.C w1 A n xs:=
 ⟨h.1,h.2.1,fun hn=>by
  obtain⟨ad,e,hc⟩:=h.2.2 hn;refine⟨ad,e,fun j p hj=>?_⟩;obtain⟨c,hs,hr,hcell⟩:=hc j p hj;exact⟨c,hs,hd.K hb hr,fun i u hu=>cell_heap hb (hcell i u hu)⟩⟩
theorem heap_int(k:IntKind):Heap (Kd.int k):=⟨fun _ h=>h⟩
end Kd
def Kept(w W:World)(S:Nat->Prop):Prop:=w.heap.size<=W.heap.size/\ ∀i,i<w.heap.size-> ¬S i->W.heap[i]? =w.heap[i]?
section
variable {w W W2:World} {S S2 S':Nat->Prop}
theorem Kept.refl(w:World)(S:Nat->Prop):Kept w w S:=⟨Nat.le_refl _,fun _ _ _=>rfl⟩
theorem Kept.of_below(h:Below w.heap.size w W)(S:Nat->Prop):Kept w W S:=⟨h.size,fun i hi _=>h.block i hi⟩
theorem Kept.then_(h:Kept w W S)(k:Kept W W2 S2)(hs: ∀k,S2 k->S k∨w.heap.size<=k):Kept w W2 S:=
 ⟨Nat.le_trans h.1 k.1,fun i hi hn=>(k.2 i (Nat.lt_of_lt_of_le hi h.1) (fun h2=>(hs i h2).elim hn (fun h3=>by omega))).trans (h.2 i hi hn)⟩
theorem Kept.of_grown{row:Option Nat}(hg:W.grownBy W2 row)(h:Kept w W S)(hr: ∀k,row=some k->S k∨w.heap.size<=k):Kept w W2 S:=
 h.then_ (S2:=fun k=>row=some k) ⟨hg.size,fun i hi hn=>hg.block i hi (fun he=>hn he.symm)⟩ hr
theorem Kept.below(h:Kept w W S)(hb:Below W.heap.size W W2):Kept w W2 S:=h.then_ (Kept.of_below hb (fun _=>False)) (fun _ hk=>hk.elim)
theorem Kept.drew(h:Kept w W S):Kept w W.drew S:=h
theorem Kept.drewN(h:Kept w W S)(m:Nat):Kept w (W.drewN m) S:=h
theorem Kept.setCell(h:Kept w W S){p:Addr}(hp:S p.block∨w.heap.size<=p.block)(u:Value):Kept w (W.setCell p u) S:=
 h.then_ (S2:=fun k=>k=p.block) ⟨by simp[World.setCell],fun i _ hn=>Below.heap_setCell W p u i hn⟩ (fun k hk=>by rw[hk];exact hp)
theorem blk_kept{g:Nat}{o:Obj}(hb:W.heap[g]? =some o)(hk:Kept W W2 S)(hne: ¬S g):W2.heap[g]? =some o:=(hk.2 g (blk_lt hb) hne).trans hb
end
namespace Kd
section
variable {α:Type} {d:Kd α} {e base n c:Nat} {ok oki S S2:Nat->Prop} {w w0 W W1 W2:World} {v:Value} {A:Option Addr} {xs:List α} {i:Int} {cs:List Value}
theorem R_kept(h:d.R e W base ok v xs)(hk:Kept W W2 S)(hne: ∀k,ok k-> ¬S k):d.R e W2 base ok v xs:=R_step h (fun k ho hlt=>hk.2 k hlt (hne k ho))
end
end Kd
def Foot(P:World->Prop)(W:World)(ok:Nat->Prop):Prop:= ∀W':World,(∀k,ok k->k<W.heap.size->W'.heap[k]? =W.heap[k]?)->P W'
theorem heap_lt{W W1:World}{k:Nat}(h:W1.heap[k]? =W.heap[k]?)(hlt:k<W.heap.size):k<W1.heap.size:=by
 rw[Array.getElem?_eq_getElem hlt]at h
 exact(Array.getElem?_eq_some_iff.1 h).1
namespace Foot
variable {P Q:World->Prop} {W W1:World} {ok ok':Nat->Prop}
theorem now(h:Foot P W ok):P W:=h W (fun _ _ _=>rfl)
theorem mono(h:Foot P W ok)(hok: ∀k,ok k->ok' k):Foot P W ok':=fun W' hW=>h W' (fun k hk hlt=>hW k (hok k hk) hlt)
theorem bound(h:Foot P W ok):Foot P W (fun k=>ok k/\k<W.heap.size):=fun W' hW=>h W' (fun k hk hlt=>hW k ⟨hk,hlt⟩ hlt)
theorem step(h:Foot P W ok)(hm: ∀k,ok k->k<W.heap.size->W1.heap[k]? =W.heap[k]?):Foot P W1 ok:=fun W' hW=>h W' (fun k hk hlt=>(hW k hk (heap_lt (hm k hk hlt) hlt)).trans (hm k hk hlt))
theorem old(h:Foot P W ok)(hb:Below W.heap.size W W1):Foot P W1 (fun k=>ok k/\k<W.heap.size):=(h.bound).step (fun k _ hlt=>hb.block k hlt)
end Foot
namespace Kd
def F{α:Type}(d:Kd α)(W:World)(ok:Nat->Prop)(A:Option Addr)(n:Nat)(xs:List α):Prop:=Foot (fun W=>d.C W A n xs) W ok
def FK{α:Type}(d:Kd α)(W:World)(ok:Nat->Prop)(x:α)(c:List Value):Prop:=Foot (fun W=>d.K W x c) W ok
section
variable {α β:Type} {d:Kd α} {e base n n' cc g N:Nat} {ok ok' okp S:Nat->Prop} {w w0 w1 W W1:World} {A A':Option Addr} {u v v1:Value} {xs:List α} {xs':List β} {d':Kd β} {x:α} {c:List Value}
theorem F_now(h:F d W ok A n xs):d.C W A n xs:=Foot.now h
theorem F_mono(h:F d W ok A n xs)(hok: ∀k,ok k->ok' k):F d W ok' A n xs:=Foot.mono h hok
theorem F_bound(h:F d W ok A n xs):F d W (fun k=>ok k/\k<W.heap.size) A n xs:=Foot.bound h
theorem F_step(h:F d W ok A n xs)(hm: ∀k,ok k->k<W.heap.size->W1.heap[k]? =W.heap[k]?):F d W1 ok A n xs:=Foot.step h hm
theorem F_below(h:F d W ok A n xs)(hb:Below W.heap.size W W1):F d W1 ok A n xs:=F_step h (fun k _ hlt=>hb.block k hlt)
theorem F_drew(h:F d W ok A n xs):F d W.drew ok A n xs:=F_below h (below_drew (Below.refl _ _))
theorem F_drewN(h:F d W ok A n xs)(m:Nat):F d (W.drewN m) ok A n xs:=F_below h (pw_below_drewN (Below.refl _ _) m)
theorem F_far(h:F d W ok A n xs){p:Addr}(hok: ∀k,ok k->k≠p.block)(u:Value):F d (W.setCell p u) ok A n xs:=F_step h (fun k hk _=>Below.heap_setCell W p u k (hok k hk))
theorem F_nil(d:Kd α)(W:World)(ok:Nat->Prop):F d W ok none ([]:List α).length []:=fun W' _=>C_nil d W'
theorem F_elder'(h:F d W ok A n xs)(hbase: ∀k,v.ownBlock=some k->W.heap.size<=k)(hb:Below W.heap.size W W1):F d W1 (fun k=>ok k/\some k≠v.ownBlock) A n xs:=
 F_mono (Foot.old h hb) (fun k hk=>⟨hk.1,fun he=>by have:=hbase k he.symm;have:=hk.2;omega⟩)
theorem F_elderB(h:F d W ok A n xs)(a:Nat)(ha:W.heap.size<=a):F d W (fun k=>ok k/\k≠a) A n xs:=F_mono (F_bound h) (fun k hk=>⟨hk.1,by have:=hk.2;omega⟩)
theorem F_after(h:F d W (fun k=>ok k/\some k≠v.ownBlock) A n xs)(hg:W.grownBy W1 v.ownBlock)(hat:v1.ownBlock=v.ownBlock∨ ∃b,v1.ownBlock=some b/\W.heap.size<=b):F d W1 (fun k=>ok k/\some k≠v1.ownBlock) A n xs:=by
 refine F_mono (Foot.step (F_bound h) (fun k hk hlt=>hg.block k hlt hk.1.2)) (fun k hk=>⟨hk.1.1,?_⟩);rcases hat with hat|⟨b,hb,hle⟩
 ·rw[hat];exact hk.1.2
 ·rw[hb];intro he;injection he with he;have:=hk.2;omega
theorem C_F(hd:Heap d)(h:d.C w A n xs):F d w (fun k=>k<w.heap.size) A n xs:=fun _ hW=>hd.C (fun k hlt=>hW k hlt hlt) h
theorem R_F(h:d.R e W base ok (.slice A n cc) xs):F d W ok A n xs:=fun W' hW=>by
 have h2:=R_reads' (R_step h hW);rw[h2.1];exact h2.2.2
theorem FK_now(h:FK d W ok x c):d.K W x c:=Foot.now h
theorem FK_mono(h:FK d W ok x c)(hok: ∀k,ok k->ok' k):FK d W ok' x c:=Foot.mono h hok
theorem FK_bound(h:FK d W ok x c):FK d W (fun k=>ok k/\k<W.heap.size) x c:=Foot.bound h
theorem FK_step(h:FK d W ok x c)(hm: ∀k,ok k->k<W.heap.size->W1.heap[k]? =W.heap[k]?):FK d W1 ok x c:=Foot.step h hm
theorem FK_of_M(h:d.M W base ok x c):FK d W ok x c:=fun _ hW=>d.K_of_M (M_step h hW)
end
end Kd
end Go.Proofs.YtjgcocfnilhggaaDoorW.PrintWords
namespace Go.Proofs.YtjgcocfnilhggaaDoorW.PrintWords
open RowKit
namespace Kd
def chunks(sz:Nat)(n:Nat)(inner:List Value):List (List Value):=(List.range n).map fun j=>(inner.drop (j*sz)).take sz
theorem chunks_length(sz n:Nat)(inner:List Value):(chunks sz n inner).length=n:=by simp[chunks]
theorem chunks_at{sz n:Nat}{inner:List Value}{j:Nat}(hj:j<n):(chunks sz n inner)[j]? =some ((inner.drop (j*sz)).take sz):=by simp[chunks,hj]
theorem chunks_get{sz n:Nat}{inner:List Value}{j:Nat}{c:List Value}(h:(chunks sz n inner)[j]? =some c):c=(inner.drop (j*sz)).take sz:=by
 have hj:j<n:=by have:=(List.getElem?_eq_some_iff.1 h).1;rwa [chunks_length]at this
 rw[chunks_at hj]at h
 injection h with h;exact h.symm
theorem reps_raw{α:Type}{Rr:α->List Value->Prop}{sz:Nat}{xs:List α}{inner:List Value}(h:Reps Rr sz xs inner)(hR: ∀x c,Rr x c->c.length=sz/\ ∀u∈c,u.oneCell'=true):Reps (fun x cs=>cs=x/\cs.length=sz/\ ∀u∈cs,u.oneCell'=true) sz (chunks sz xs.length inner) inner:=by
 refine⟨by rw[chunks_length];exact h.1,fun j p hj=>?_⟩;have hjl:j<xs.length:=by have:=(List.getElem?_eq_some_iff.1 hj).1;rwa [chunks_length]at this
 have hp:=chunks_get hj;exact⟨hp.symm,hR _ _ (h.2 j _ (List.getElem?_eq_getElem hjl))⟩
section
variable {α:Type} {d:Kd α} {e base n cc g:Nat} {ok ok' okp S:Nat->Prop} {w w1 W W1:World} {A:Option Addr} {u v v1:Value} {xs:List α} {x:α} {c:List Value}
def N{α:Type}(d:Kd α)(e:Nat)(w:World)(base:Nat)(ok:Nat->Prop)(v:Value)(xs:List α):Prop:=
 (∀k,v.ownBlock=some k->ok k)/\ ∃rows:List (List Value),rows.length=xs.length/\(raw d.sz).R e w base (fun k=>some k=v.ownBlock) v rows/\ ∀(j:Nat) (x:α) (c:List Value),xs[j]? =some x->rows[j]? =some c->FK d w (fun k=>ok k/\some k≠v.ownBlock) x c
theorem raw_tight{sz:Nat}{rows:List (List Value)}(h:(raw sz).R e w base ok v rows):(raw sz).R e w base (fun k=>some k=v.ownBlock) v rows:=R_tight rfl h
theorem raw_any{sz:Nat}{rows:List (List Value)}(h:(raw sz).R e w base ok v rows):(raw sz).R e w base (fun _=>True) v rows:=R_mono h (fun _ _=>trivial)
theorem R_N(h:d.R e w base ok v xs):N d e w base ok v xs:=by
 obtain⟨h0,inner,ho,hr⟩:=h;refine⟨h0,chunks d.sz xs.length inner,chunks_length _ _ _,⟨fun k hk=>hk.symm,inner,by rw[chunks_length];exact ho,reps_raw hr (fun x c hp=>⟨d.K_len (d.K_of_M hp),d.K_one (d.K_of_M hp)⟩)⟩,fun j x c hx hc=>?_⟩;rw[chunks_get hc];exact FK_of_M (hr.2 j x hx)
theorem N_nil(d:Kd α)(e:Nat)(w:World)(base:Nat)(ok:Nat->Prop):N d e w base ok (.slice none 0 0) []:=R_N (R_nil _ _ _ _ _)
theorem N_lt(h:N d e w base ok v xs): ∀k,v.ownBlock=some k->k<w.heap.size:=by
 obtain⟨_,rows,_,hR,_⟩:=h;exact R_lt hR
theorem N_base(h:N d e w base ok v xs): ∀k,v.ownBlock=some k->base<=k:=by
 obtain⟨_,rows,_,hR,_⟩:=h;exact R_base hR
theorem N_typed(h:N d e w base ok v xs): ∀k,v.ownBlock=some k-> ∃cells,w.heap[k]? =some (.cells cells e (0,0)):=by
 obtain⟨_,rows,_,hR,_⟩:=h;exact R_typed hR
theorem N_ne(h:N d e w base ok v xs){t:Nat}{cells:Array Value}(hb:w.heap[g]? =some (.cells cells t (0,0)))(ht:e≠t):some g≠v.ownBlock:=by
 obtain⟨_,rows,_,hR,_⟩:=h;exact R_ne hR hb ht
theorem N_step(h:N d e w base ok v xs)(hm: ∀k,ok k->k<w.heap.size->w1.heap[k]? =w.heap[k]?):N d e w1 base ok v xs:=by
 obtain⟨h0,rows,hl,hR,hf⟩:=h;exact⟨h0,rows,hl,R_step hR (fun k hk hlt=>hm k (h0 k hk.symm) hlt),fun j x c hx hc=>FK_step (hf j x c hx hc) (fun k hk hlt=>hm k hk.1 hlt)⟩
theorem N_below(h:N d e w base ok v xs)(hb:Below w.heap.size w w1):N d e w1 base ok v xs:=N_step h (fun k _ hk=>hb.block k hk)
theorem N_drewN(h:N d e w base ok v xs)(m:Nat):N d e (w.drewN m) base ok v xs:=N_below h (pw_below_drewN (Below.refl _ _) m)
theorem N_slice(h:N d e w base ok v xs): ∃A c,v= .slice A xs.length c:=by
 obtain⟨_,rows,hl,hR,_⟩:=h;obtain⟨A,c,he⟩:=R_slice hR;exact⟨A,c,by rw[he,hl]⟩
theorem N_reads'{n c:Nat}(h:N d e w base ok (.slice A n c) xs):n=xs.length/\n<=c/\d.C w A xs.length xs:=by
 obtain⟨_,rows,hl,hR,hf⟩:=h;obtain⟨hn,hc,hC⟩:=R_reads' hR;refine⟨by omega,hc,?_⟩;rw[hl]at hC
 refine⟨rfl,hC.2.1,fun hp=>?_⟩;obtain⟨ad,he,hcell⟩:=hC.2.2 hp;refine⟨ad,he,fun j p hj=>?_⟩;have hjl:j<rows.length:=by have:=(List.getElem?_eq_some_iff.1 hj).1;omega
 obtain⟨c',hcl,hK,hcc⟩:=hcell j _ (List.getElem?_eq_getElem hjl);have hk:=FK_now (hf j p _ hj (List.getElem?_eq_getElem hjl));refine⟨c',hcl,?_,hcc⟩;rw[show c'=rows[j]from hK.1];exact hk
end
end Kd
end Go.Proofs.YtjgcocfnilhggaaDoorW.PrintWords
namespace Go.Proofs.YtjgcocfnilhggaaDoorW.PrintLast
open YtjgcocfnilhggaaDoorW.PrintWords (Aside0)
def needsOf(md:Region.Mode)(o:Oper):List Nat:=(o.after.toList.filter (fun e=>Region.binds md e)).map (fun e=>e.on)
def clashOf(md:Region.Mode)(ops:Array Oper)(i:Nat)(oi:Oper):List Nat:=(List.range ops.size).filter fun j=> !(j==i)&&match ops[j]? with
 |some oj=> !(oj.after.any (fun e=>Region.binds md e&&e.on==i)||oi.apart ops oj)
 |none=>false
def rtab(md:Region.Mode)(ops:Array Oper):Bool×List (List Nat×List Nat):=(Region.noSelect ops,(List.range ops.size).map fun i=>match ops[i]? with
 |some o=>(needsOf md o,clashOf md ops i o)
 |none=>([],[]))
def readyAt(T:List (List Nat×List Nat))(l:List Bool)(i:Nat):Bool:= !l.getD i true&&match T[i]? with
 |some r=>r.1.all (fun j=>l.getD j false)
 |none=>false
def readyT(T:List (List Nat×List Nat))(l:List Bool):List Nat:=(List.range T.length).filter (readyAt T l)
def freeT(T:List (List Nat×List Nat))(l:List Bool)(i:Nat):Bool:=match T[i]? with
 |some r=>r.2.all (fun j=>l.getD j true)
 |none=>false
def closedT(T:List (List Nat×List Nat))(l:List Bool):Bool:=(List.range T.length).all fun j=> !l.getD j false||match T[j]? with
 |some r=>r.1.all (fun k=>l.getD k false)
 |none=>true
def reachT(T:List (List Nat×List Nat))(i:Nat):Nat->Nat->Bool
 |0,_=>false
 |fuel+1,d=>match T[d]? with
  |some r=>r.1.any fun j=>j==i||reachT T i fuel j
  |none=>false
def lastT(T:List (List Nat×List Nat))(l:List Bool)(ds:List Nat)(i:Nat):Bool:=ds.all fun d=>l.getD d true||reachT T i T.length d
section
variable {md:Region.Mode} {ops:Array Oper} {T:Bool×List (List Nat×List Nat)} {l l' li lj lk:Array Bool} {ds:List Nat} {i j k:Nat}
theorem gd(l:Array Bool)(j:Nat)(b:Bool):l.getD j b=l.toList.getD j b:=by simp[Array.getD_eq_getD_getElem?,List.getD_eq_getElem?_getD]
theorem needs_all(o:Oper)(p:Nat->Bool):o.after.all (fun e=> !Region.binds md e||p e.on)=(needsOf md o).all p:=by
 unfold needsOf;rw[<-Array.all_toList]
 induction o.after.toList with
 |nil=>rfl
 |cons e r ih=>
  rw[List.all_cons,ih,List.filter_cons]
  cases h:Region.binds md e<;>simp
theorem needs_any(o:Oper)(p:Nat->Bool):o.after.any (fun e=>Region.binds md e&&p e.on)=(needsOf md o).any p:=by
 unfold needsOf;rw[<-Array.any_toList]
 induction o.after.toList with
 |nil=>rfl
 |cons e r ih=>
  rw[List.any_cons,ih,List.filter_cons]
  cases h:Region.binds md e<;>simp
theorem rtab_length:(rtab md ops).2.length=ops.size:=by simp[rtab]
theorem rtab_some{o:Oper}(h:ops[i]? =some o):(rtab md ops).2[i]? =some (needsOf md o,clashOf md ops i o):=by
 have hi:=(Array.getElem?_eq_some_iff.1 h).1;unfold rtab;rw[List.getElem?_map,List.getElem?_range hi,Option.map_some,h]
theorem rtab_none(h:ops[i]? =none):(rtab md ops).2[i]? =none:=by
 have hi:ops.size<=i:=Array.getElem?_eq_none_iff.1 h;exact List.getElem?_eq_none (by rw[rtab_length];exact hi)
theorem readyAt_eq:readyAt (rtab md ops).2 l.toList i=(!l.getD i true&&((ops[i]?).map (·.after.all fun e=> !Region.binds md e||l.getD e.on false)).getD false):=by
 unfold readyAt;rw[gd]
 cases h:ops[i]? with
 |none=>rw[rtab_none h];rfl
 |some o=>
  rw[rtab_some h];simp only[Option.map_some,Option.getD_some];rw[<-needs_all];simp only[gd]
theorem ready_eq:Region.ready md ops l=readyT (rtab md ops).2 l.toList:=by
 unfold Region.ready readyT;rw[rtab_length];refine List.filter_congr (fun i _=>?_);rw[readyAt_eq]
theorem free_eq:Region.free md ops l i=freeT (rtab md ops).2 l.toList i:=by
 unfold Region.free freeT
 cases h:ops[i]? with
 |none=>rw[rtab_none h]
 |some oi=>
  rw[rtab_some h];simp only[clashOf];rw[List.all_filter]
  congr 1
  funext j
  rw[gd]
  cases hj:ops[j]? with
  |none=>cases (j==i)<;>cases (l.toList.getD j true)<;>simp
  |some oj=>
   cases (j==i)<;>cases (l.toList.getD j true)<;>cases (oj.after.any (fun e=>Region.binds md e&&e.on==i)||oi.apart ops oj)<;>simp_all
theorem closed_eq:Region.closedB md ops l=closedT (rtab md ops).2 l.toList:=by
 unfold Region.closedB closedT;rw[rtab_length]
 congr 1
 funext j
 rw[gd]
 cases h:ops[j]? with
 |none=>rw[rtab_none h]
 |some o=>
  rw[rtab_some h];simp only;rw[<-needs_all];simp only[gd]
theorem reach_eq: ∀(fuel d:Nat),Region.reachB md ops i fuel d=reachT (rtab md ops).2 i fuel d
 |0,_=>rfl
 |fuel+1,d=>by
  unfold Region.reachB reachT
  cases h:ops[d]? with
  |none=>rw[rtab_none h]
  |some o=>
   rw[rtab_some h];simp only;rw[<-needs_any]
   congr 1
   funext e
   rw[reach_eq fuel]
theorem last_eq:Region.lastB md ops l ds i=lastT (rtab md ops).2 l.toList ds i:=by
 unfold Region.lastB lastT;rw[rtab_length]
 congr 1
 funext d
 rw[gd,reach_eq]
theorem readyAt_mem(h:readyAt T.2 l.toList i=true)(hT:rtab md ops=T):(Region.ready md ops l).contains i=true:=by
 subst hT;rw[ready_eq];unfold readyT;rw[List.contains_iff_mem,List.mem_filter,List.mem_range];refine⟨?_,h⟩;unfold readyAt at h;rw[Bool.and_eq_true]at h
 cases hq:(rtab md ops).2[i]? with
 |none=>rw[hq]at h;simp at h
 |some r=>exact(List.getElem?_eq_some_iff.1 hq).1
theorem set_of(h:(l.toList.set i true==l'.toList)=true):(l.setIfInBounds i true==l')=true:=by
 rw[beq_iff_eq]at h⊢
 apply Array.ext';rw[Array.toList_setIfInBounds];exact h
def anyT(T:Bool×List (List Nat×List Nat))(l l':List Bool)(i:Nat):Bool:=T.1&&freeT T.2 l i&&readyAt T.2 l i&&(l.set i true==l')
theorem any_of(hT:rtab md ops=T)(h:anyT T l.toList l'.toList i=true):anyB md ops l l' i=true:=by
 simp only[anyT,Bool.and_eq_true]at h;obtain⟨⟨⟨h1,h2⟩,h3⟩,h4⟩:=h;have h5:=readyAt_mem h3 hT;have h6:=set_of h4;subst hT;simp only[anyB,Bool.and_eq_true];exact⟨⟨⟨h1,by rw[free_eq];exact h2⟩,h5⟩,h6⟩
def takeT(T:Bool×List (List Nat×List Nat))(ds:List Nat)(l l':List Bool)(i:Nat):Bool:=T.1&&freeT T.2 l i&&readyAt T.2 l i&&closedT T.2 l&&lastT T.2 l ds i&&(l.set i true==l')
theorem take_of(hT:rtab md ops=T)(h:takeT T ds l.toList l'.toList i=true):takeB md ops ds l l' i=true:=by
 simp only[takeT,Bool.and_eq_true]at h;obtain⟨⟨⟨⟨⟨h1,h2⟩,h3⟩,h4⟩,h5⟩,h6⟩:=h;have h7:=readyAt_mem h3 hT;have h8:=set_of h6;subst hT;simp only[takeB,Bool.and_eq_true];exact⟨⟨⟨⟨⟨h1,by rw[free_eq];exact h2⟩,h7⟩,by rw[closed_eq];exact h4⟩,by rw[last_eq];exact h5⟩,h8⟩
theorem one_of(hT:rtab md ops=T)(h:(readyT T.2 l.toList== [i]&&l.toList.set i true==l'.toList)=true):readyB md ops l l' i=true:=by
 simp only[Bool.and_eq_true]at h;obtain⟨h1,h2⟩:=h;subst hT;simp only[readyB,Bool.and_eq_true];exact⟨by rw[ready_eq];exact h1,set_of h2⟩
theorem two_of(hT:rtab md ops=T)(h:(readyT T.2 l.toList== [i,j]&&l.toList.set i true==li.toList&&l.toList.set j true==lj.toList)=true):(Region.ready md ops l== [i,j]&&l.setIfInBounds i true==li&&l.setIfInBounds j true==lj)=true:=by
 simp only[Bool.and_eq_true]at h⊢;obtain⟨⟨h1,h2⟩,h3⟩:=h;subst hT;exact⟨⟨by rw[ready_eq];exact h1,set_of h2⟩,set_of h3⟩
theorem done_of(hT:rtab md ops=T)(h:(readyT T.2 l.toList== [])=true):(Region.ready md ops l== [])=true:=by
 subst hT;rw[ready_eq];exact h
def upM(B:List Nat)(d:Nat):List Nat->Nat
 | []=>0
 |n::r=>(2^n|||(if n<d then B.getD n 0 else 0))|||upM B d r
def waitsOk(T:List (List Nat×List Nat))(B:List Nat):Bool:=(List.range T.length).all fun d=>match T[d]? with
 |some r=>(B.getD d 0|||upM B d r.1)==upM B d r.1
 |none=>false
theorem upM_bit{B:List Nat}{d i:Nat} : ∀ {ns:List Nat},(upM B d ns).testBit i=true-> ∃n∈ns,n=i∨(n<d/\(B.getD n 0).testBit i=true)
 | [],h=>by simp[upM]at h
 |n::r,h=>by
  unfold upM at h;rw[Nat.testBit_or,Nat.testBit_or,Bool.or_eq_true,Bool.or_eq_true]at h
  rcases h with(h|h)|h
  ·rw[Nat.testBit_two_pow]at h
   exact⟨n,List.mem_cons_self,.inl (by simpa using h)⟩
  ·by_cases hn:n<d
   case neg=>rw[if_neg hn]at h;simp at h
   rw[if_pos hn]at h
   exact⟨n,List.mem_cons_self,.inr ⟨hn,h⟩⟩
  ·obtain⟨m,hm,h2⟩:=upM_bit h;exact⟨m,List.mem_cons_of_mem _ hm,h2⟩
theorem reach_bit{T:List (List Nat×List Nat)}{B:List Nat}(hB:waitsOk T B=true): ∀(fuel d:Nat),d<fuel->d<T.length->(B.getD d 0).testBit i=true->reachT T i fuel d=true
 |0,d,h,_,_=>by omega
 |fuel+1,d,h,hd,hb=>by
  have h1:=List.all_eq_true.1 hB d (List.mem_range.2 hd)
  cases hr:T[d]? with
  |none=>rw[hr]at h1;simp at h1
  |some r=>
   rw[hr]at h1
   simp only[beq_iff_eq]at h1;have h2:(upM B d r.1).testBit i=true:=by rw[<-h1,Nat.testBit_or,hb,Bool.true_or]
   obtain⟨n,hn,h3⟩:=upM_bit h2;unfold reachT;rw[hr];simp only;rw[List.any_eq_true];refine⟨n,hn,?_⟩;rcases h3 with rfl|⟨h4,h5⟩
   ·simp
   ·rw[reach_bit hB fuel n (by omega) (by omega) h5,Bool.or_true]
def lastW(T:List (List Nat×List Nat))(B:List Nat)(l:List Bool)(ds:List Nat)(i:Nat):Bool:=ds.all fun d=>l.getD d true||(decide (d<T.length)&&(B.getD d 0).testBit i)
def takeW(T:Bool×List (List Nat×List Nat))(B:List Nat)(ds:List Nat)(l l':List Bool)(i:Nat):Bool:=T.1&&freeT T.2 l i&&readyAt T.2 l i&&closedT T.2 l&&lastW T.2 B l ds i&&(l.set i true==l')
theorem take_ofW{B:List Nat}(hT:rtab md ops=T)(hB:waitsOk T.2 B=true)(h:takeW T B ds l.toList l'.toList i=true):takeB md ops ds l l' i=true:=by
 refine take_of hT ?_;simp only[takeW,takeT,Bool.and_eq_true]at h⊢;obtain⟨⟨⟨⟨⟨h1,h2⟩,h3⟩,h4⟩,h5⟩,h6⟩:=h;refine⟨⟨⟨⟨⟨h1,h2⟩,h3⟩,h4⟩,?_⟩,h6⟩;unfold lastW at h5;unfold lastT;rw[List.all_eq_true]at h5⊢
 intro d hd;have h7:=h5 d hd;rw[Bool.or_eq_true,Bool.and_eq_true,decide_eq_true_eq]at h7
 rcases h7 with h7|⟨h8,h9⟩
 ·rw[h7,Bool.true_or]
 ·rw[reach_bit hB _ d h8 h8 h9,Bool.or_true]
theorem with_tabW{P:Program}{Q:Exit->Act->World->Prop}{S:World->Prop}{n:Nat}{a:Act}{w:World}{B:List Nat}(hT:rtab md ops=T)(hB:waitsOk T.2 B=true)(h:Aside0 (rtab md ops=T)->Aside0 (waitsOk T.2 B=true)->wpAnyLast P md ops Q S ds n l a w):wpAnyLast P md ops Q S ds n l a w:=h ⟨hT⟩ ⟨hB⟩
end
def opsIn:Code->Nat->Option (Array Oper)
 | .region id ops _,k=>if id==k then some ops else none
 | .seq a b,k=>match opsIn a k with
   |some o=>some o
   |none=>opsIn b k
 | .cond _ a b,k=>match opsIn a k with
   |some o=>some o
   |none=>opsIn b k
 | .block _ c,k=>opsIn c k
 | .loop c,k=>opsIn c k
 | .scope c,k=>opsIn c k
 | .rangeFunc _ _ a b,k=>match opsIn a k with
   |some o=>some o
   |none=>opsIn b k
 |_,_=>none
def opsOf(f:Func)(k:Nat):Array Oper:=((f.body.bind fun c=>opsIn c k)).getD #[]
end Go.Proofs.YtjgcocfnilhggaaDoorW.PrintLast
namespace Go.Proofs.YtjgcocfnilhggaaDoorW.PrintWords
open RowKit
section
variable {P:Program} {ops:Array Oper} {rest:List Oper} {o:Oper} {a:Act} {Q:Exit->Act->World->Prop} {W:World}
theorem gate_guard(hw:Region.wanted o (yielded ops a.tmps)=true)(h:wpList P ops Q ({ o with guard:=none } ::rest) a W):wpList P ops Q (o::rest) a W:=by
 have h1:Region.wanted { o with guard:=none } (yielded ops a.tmps)=true:=rfl;unfold wpList at h⊢;rw[if_pos h1]at h
 rw[if_pos hw];exact h
end
end Go.Proofs.YtjgcocfnilhggaaDoorW.PrintWords
namespace Go.Proofs.YtjgcocfnilhggaaDoorW.PrintLast
end Go.Proofs.YtjgcocfnilhggaaDoorW.PrintLast
namespace Go.Proofs.YtjgcocfnilhggaaDoorW.PrintWords
open RowKit
namespace Kd
section
variable {α:Type} {d:Kd α} {e base n cap g:Nat} {ok ok' okp:Nat->Prop} {w w1 W:World} {v v1:Value} {xs ys:List α}
theorem N_appended{rows news:List (List Value)}(h0: ∀k,v.ownBlock=some k->ok k)(hl:rows.length=xs.length)(hf: ∀(j:Nat) (x:α) (c:List Value),xs[j]? =some x->rows[j]? =some c->FK d W (fun k=>ok k/\some k≠v.ownBlock) x c)
 (hl2:news.length=ys.length) (hf2: ∀(j:Nat) (x:α) (c:List Value),ys[j]? =some x->news[j]? =some c->FK d W okp x c) (hokp: ∀k,okp k->ok k/\some k≠v.ownBlock) (hfresh: ∀k,W.heap.size<=k->ok k)
 (hR:(raw d.sz).R e w1 base (fun _=>True) v1 (rows++news)) (hg:W.grownBy w1 v.ownBlock) (hat:v1.ownBlock=v.ownBlock∨ ∃b,v1.ownBlock=some b/\W.heap.size<=b):N d e w1 base ok v1 (xs++ys):=by
 have hne: ∀k,some k≠v.ownBlock->k<W.heap.size->some k≠v1.ownBlock:=by
  intro k hk hlt;rcases hat with hat|⟨b,hb,hle⟩
  ·rw[hat];exact hk
  ·rw[hb];intro he;injection he with he;omega
 have step: ∀ {x:α} {c:List Value} {o:Nat->Prop},FK d W o x c->(∀k,o k->ok k/\some k≠v.ownBlock)->FK d w1 (fun k=>ok k/\some k≠v1.ownBlock) x c:=by
  intro x c o hq ho;exact FK_mono (FK_step (FK_bound hq) (fun k hk hlt=>hg.block k hlt (ho k hk.1).2)) (fun k hk=>⟨(ho k hk.1).1,hne k (ho k hk.1).2 hk.2⟩)
 refine⟨fun k hk=>?_,rows++news,by rw[List.length_append,List.length_append,hl,hl2],raw_tight hR,fun j x c hx hc=>?_⟩
 ·rcases hat with hat|⟨b,hb,hle⟩
  ·exact h0 k (hat▸hk)
  ·rw[hb]at hk
   injection hk with hk;exact hfresh k (by omega)
 ·rcases Nat.lt_or_ge j xs.length with hlt|hge
  ·rw[List.getElem?_append_left hlt]at hx
   rw[List.getElem?_append_left (by omega)]at hc
   exact step (hf j x c hx hc) (fun _ hk=>hk)
  ·rw[List.getElem?_append_right hge]at hx
   rw[List.getElem?_append_right (by omega),hl]at hc
   exact step (hf2 _ x c hx hc) hokp
theorem FK_raw{x:α}{c:List Value}(h:FK d W ok x c):c=c/\c.length=d.sz/\ ∀u∈c,u.oneCell'=true:=⟨rfl,d.K_len (FK_now h),d.K_one (FK_now h)⟩
end
section
variable {P:Program} {ops:Array Oper} {rest:List Oper} {o:Oper} {a:Act} {Q:Exit->Act->World->Prop} {Kc:Act->World->Prop} {α:Type}
theorem N_append(d:Kd α){w0 W:World}(base:Nat)(hgd:o.guard=none)(s x:Operand)(t e:TypeId)(z:Value)(bytes:Nat)
 (ho:o.op= .call { callee:= .builtin .append,args:= #[s,x],argTypes:= #[t,t] })
 (ht:P.underlying t=some (.slice e)) (hinfo:(P.info? e).map (fun i=>(i.zero,i.size,i.bytes))=some (some z,d.sz,bytes)) (hz:z.cells.size=d.sz) (hs0:0<d.sz) (hb0:0<bytes)
 (v:Value) (xs:List α) (p:α) (cs:List Value) (ok okp:Nat->Prop) (hs:a.eval s=v) (hx:a.eval x= .slice (some ⟨W.heap.size,0,none⟩) 1 1) (hp:FK d W okp p cs) (hokp: ∀k,okp k->ok k/\some k≠v.ownBlock) (hfresh: ∀k,W.heap.size<=k->ok k)
 (HO:N d e W base ok v xs) (HB:Below base w0 W) (hbase:base<=W.heap.size) (hl:(xs.length+1)*bytes<=140737488355328)
 (h: ∀v1 w1,N d e w1 base ok v1 (xs++ [p])->Below base w0 w1->W.grownBy w1 v.ownBlock->(v1.ownBlock=v.ownBlock∨ ∃b,v1.ownBlock=some b/\W.heap.size<=b)->wpList P ops Q rest (a.put o.dst v1) w1):
 wpList P ops Q (o::rest) a (W.alloc (.cells cs.toArray e)):=by
 obtain⟨h0,rows,hlr,hR,hf⟩:=HO;refine R_append (raw d.sz) base hgd s x t e z bytes ho ht hinfo hz hs0 hb0 v rows cs cs (fun _=>True) (fun _=>False) hs hx (FK_raw hp) (fun _ hk=>hk.elim) (fun _ _=>trivial) (raw_any hR) HB hbase (by rw[hlr];exact hl) ?_;intro v1 w1 hr hb hg hat;exact h v1 w1 (N_appended h0 hlr hf (ys:= [p]) (news:= [cs]) rfl (fun j y c hy hc=>by
  rcases j with _|j
  ·simp only[List.getElem?_cons_zero,Option.some.injEq]at hy hc;rw[<-hy,<-hc];exact hp
  ·simp at hy) hokp hfresh hr hg hat) hb hg hat
end
end Kd
end Go.Proofs.YtjgcocfnilhggaaDoorW.PrintWords
namespace Go.Proofs.YtjgcocfnilhggaaDoorW.PrintMore
open RowKit YtjgcocfnilhggaaDoorW.PrintWords
namespace Kd
open YtjgcocfnilhggaaDoorW.PrintWords.Kd
end Kd
theorem max2_int(k k':IntKind)(x y:Int):Builtin.max2 (.int k x) (.int k' y)=pure (.int k (if x<y then y else x)):=by simp only[Builtin.max2,gt_iff_lt]
theorem min2_int(k k':IntKind)(x y:Int):Builtin.min2 (.int k x) (.int k' y)=pure (.int k (if y<x then y else x)):=by simp only[Builtin.min2]
theorem max_two(ats:Array TypeId)(ty:TypeId)(a b:Value):Builtin.max_ ats ty #[a,b] =(Builtin.max2 a b >>= fun s=>pure s):=by simp only[Builtin.max_,List.foldlM_cons,List.foldlM_nil]
theorem min_two(ats:Array TypeId)(ty:TypeId)(a b:Value):Builtin.min_ ats ty #[a,b] =(Builtin.min2 a b >>= fun s=>pure s):=by simp only[Builtin.min_,List.foldlM_cons,List.foldlM_nil]
theorem max_three(ats:Array TypeId)(ty:TypeId)(a b c:Value):Builtin.max_ ats ty #[a,b,c] =(Builtin.max2 a b >>= fun s=>Builtin.max2 s c >>= fun s=>pure s):=by simp only[Builtin.max_,List.foldlM_cons,List.foldlM_nil]
theorem min_three(ats:Array TypeId)(ty:TypeId)(a b c:Value):Builtin.min_ ats ty #[a,b,c] =(Builtin.min2 a b >>= fun s=>Builtin.min2 s c >>= fun s=>pure s):=by simp only[Builtin.min_,List.foldlM_cons,List.foldlM_nil]
theorem max_four(ats:Array TypeId)(ty:TypeId)(a b c d:Value):Builtin.max_ ats ty #[a,b,c,d] =(Builtin.max2 a b >>= fun s=>Builtin.max2 s c >>= fun s=>Builtin.max2 s d >>= fun s=>pure s):=by simp only[Builtin.max_,List.foldlM_cons,List.foldlM_nil]
theorem min_four(ats:Array TypeId)(ty:TypeId)(a b c d:Value):Builtin.min_ ats ty #[a,b,c,d] =(Builtin.min2 a b >>= fun s=>Builtin.min2 s c >>= fun s=>Builtin.min2 s d >>= fun s=>pure s):=by simp only[Builtin.min_,List.foldlM_cons,List.foldlM_nil]
end Go.Proofs.YtjgcocfnilhggaaDoorW.PrintMore
namespace Go.Proofs.YtjgcocfnilhggaaDoorW.PrintWords
open RowKit
section
variable {P:Program} {ops:Array Oper} {rest:List Oper} {o:Oper} {a:Act} {Q:Exit->Act->World->Prop} {W:World}
theorem gate_builtin{b:Builtin}{xs:Array Operand}{ts:Array TypeId}(_ho:o.op= .call { callee:= .builtin b,args:=xs,argTypes:=ts })(h:wpList P ops Q (o::rest) a W):wpList P ops Q (o::rest) a W:=h
end
def mn(a b:Int):Int:=if b<a then b else a
def shl(k:IntKind)(x y:Int):Int:=k.wrap (x*2^min y.toNat k.bits)
def shr(k:IntKind)(x y:Int):Int:=x / 2^min y.toNat k.bits
theorem shl_small{k:IntKind}{x y j:Int}(h:shl k x y=j)(hy:y<=k.bits):k.wrap (x*2^y.toNat)=j:=by rw[<-h];unfold shl;rw[Nat.min_eq_left (by omega)]
theorem shr_small{k:IntKind}{x y j:Int}(h:shr k x y=j)(hy:y<=k.bits):x / 2^y.toNat=j:=by rw[<-h];unfold shr;rw[Nat.min_eq_left (by omega)]
theorem drewN_self(w:World)(n:Nat):w.drewN n=w.drewN n:=rfl
namespace Kd
section
variable {α:Type} {d:Kd α} {e base b b' g N:Nat} {ok ok1:Nat->Prop} {W W2 w1:World} {u v:Value} {xs ys:List α} {S:Nat->Prop}
theorem R_keptB(h:d.R e W base ok v xs)(hk:Kept W W2 S)(hne: ∀k,ok k-> ¬S k):d.R e W2 base (fun k=>ok k/\(¬S k/\k<W.heap.size)) v xs:=
 R_kept (R_mono (R_bound h) (fun k hk=>⟨hk.1,hne k hk.1,hk.2.2.1⟩)) hk (fun _ hk=>hk.2.1)
end
def V{α:Type}(d:Kd α)(_e:Nat)(W:World)(_base:Nat)(ok:Nat->Prop)(v:Value)(xs:List α):Prop:= ∃A c,v= .slice A xs.length c/\xs.length<=c/\F d W ok A xs.length xs
section
variable {α β:Type} {d:Kd α} {e base base' n m c g N' lo hi:Nat} {ok ok' S:Nat->Prop} {w W w1:World} {A:Option Addr} {ad:Addr} {u v v1:Value} {xs:List α}
theorem V_map(h:V d e W base ok v xs)(hF: ∀A,F d W ok A xs.length xs->F d w1 ok' A xs.length xs):V d e w1 base' ok' v xs:=by
 obtain⟨A,c,hv,hl,hf⟩:=h;exact⟨A,c,hv,hl,hF A hf⟩
theorem V_mk(hl:xs.length<=c)(hf:F d W ok A xs.length xs):V d e W base ok (.slice A xs.length c) xs:=⟨A,c,rfl,hl,hf⟩
theorem V_slice(h:V d e W base ok v xs): ∃A c,v= .slice A xs.length c:=by
 obtain⟨A,c,hv,_⟩:=h;exact⟨A,c,hv⟩
theorem V_at(h:V d e W base ok (.slice A n c) xs):n=xs.length/\n<=c/\F d W ok A xs.length xs:=by
 obtain⟨A',c',hv,hl,hf⟩:=h;injection hv with ha hn hc;subst ha;subst hc;exact⟨hn,by rw[hn];exact hl,hf⟩
theorem V_reads'(h:V d e W base ok (.slice A n c) xs):n=xs.length/\n<=c/\d.C W A xs.length xs:=⟨(V_at h).1,(V_at h).2.1,F_now (V_at h).2.2⟩
theorem V_F(h:V d e W base ok (.slice A n c) xs):F d W ok A n xs:=by
 obtain⟨hn,_,hf⟩:=V_at h;rw[hn];exact hf
theorem V_nil(d:Kd α)(e:Nat)(W:World)(base:Nat)(ok:Nat->Prop):V d e W base ok (.slice none 0 0) []:=⟨none,0,rfl,Nat.le_refl _,F_nil d W ok⟩
theorem R_V(h:d.R e W base ok v xs):V d e W base' ok v xs:=by
 obtain⟨A,c,rfl⟩:=R_slice h;exact⟨A,c,rfl,(R_reads' h).2.1,R_F h⟩
theorem V_mono(h:V d e W base ok v xs)(hok: ∀k,ok k->ok' k):V d e W base ok' v xs:=V_map h (fun _ hf=>F_mono hf hok)
theorem V_lower(h:V d e W base ok v xs)(_:base'<=base):V d e W base' ok v xs:=h
theorem V_below(h:V d e W base ok v xs)(hb:Below W.heap.size W w1):V d e w1 base ok v xs:=V_map h (fun _ hf=>F_below hf hb)
theorem V_drew(h:V d e W base ok v xs):V d e W.drew base ok v xs:=V_map h (fun _ hf=>F_drew hf)
theorem V_drewN(h:V d e W base ok v xs)(m:Nat):V d e (W.drewN m) base ok v xs:=V_map h (fun _ hf=>F_drewN hf m)
theorem V_far(h:V d e W base ok v xs){p:Addr}(hok: ∀k,ok k->k≠p.block)(u:Value):V d e (W.setCell p u) base ok v xs:=V_map h (fun _ hf=>F_far hf hok u)
theorem V_after(h:V d e W base (fun k=>ok k/\some k≠u.ownBlock) v xs)(hg:W.grownBy w1 u.ownBlock)(hat:v1.ownBlock=u.ownBlock∨ ∃b,v1.ownBlock=some b/\W.heap.size<=b):V d e w1 base (fun k=>ok k/\some k≠v1.ownBlock) v xs:=V_map h (fun _ hf=>F_after hf hg hat)
theorem V_afterv(h:V d e W base (fun k=>ok k/\some k≠v.ownBlock) u xs)(hg:W.grownBy w1 v.ownBlock)(hat:v1.ownBlock=v.ownBlock∨ ∃b,v1.ownBlock=some b/\W.heap.size<=b):V d e w1 base (fun k=>ok k/\some k≠v1.ownBlock) u xs:=V_after h hg hat
theorem V_elder'(h:V d e W base ok v xs)(hbase: ∀k,u.ownBlock=some k->W.heap.size<=k)(hb:Below W.heap.size W w1):V d e w1 base (fun k=>ok k/\some k≠u.ownBlock) v xs:=V_map h (fun _ hf=>F_elder' hf hbase hb)
theorem V_elderB(h:V d e W base ok v xs)(a:Nat)(ha:W.heap.size<=a):V d e W base (fun k=>ok k/\k≠a) v xs:=V_map h (fun _ hf=>F_elderB hf a ha)
theorem FK_slice_mk{l:List α}(hl:l.length<=c)(hf:F d W ok A l.length l):FK (Kd.slice e d) W ok l [.slice A l.length c]:=fun W' hW=>⟨A,c,rfl,hl,hf W' hW⟩
theorem R_newM{M:Nat->Prop}(h:d.R e w1 W.heap.size ok v xs)(hle:w.heap.size<=W.heap.size)(hM: ∀k,w.heap.size<=k->M k):d.R e w1 W.heap.size (fun k=>M k/\ok k) v xs:=R_mono (R_bound h) (fun k hk=>⟨hM k (Nat.le_trans hle hk.2.1),hk.1⟩)
end
end Kd
end Go.Proofs.YtjgcocfnilhggaaDoorW.PrintWords
namespace Go.Proofs.YtjgcocfnilhggaaDoorW.PrintWords
theorem Reps.one{α:Type}{R:α->List Value->Prop}{ps:List α}{cs:List Value}{p:α}{v:Value}(hp:R p [v])(h:Reps R 1 ps cs):Reps R 1 (p::ps) (v::cs):=by
 refine⟨by simp[h.1],fun j q hq=>?_⟩
 cases j with
 |zero=>
  simp only[List.getElem?_cons_zero,Option.some.injEq]at hq;subst hq;simpa using hp
 |succ j=>
  simp only[List.getElem?_cons_succ]at hq;have h1:=h.2 j q hq;simpa[Nat.mul_one]using h1
end Go.Proofs.YtjgcocfnilhggaaDoorW.PrintWords
namespace Go
theorem zL.{u} : (∀ {α : Type u} (l : List α) (i : Nat) (a : α), l.toArray.setIfInBounds i a = (l.set i a).toArray) /\ (∀ {α : Type u} (x : α) (xs : List α) (a : α), (x :: xs).set 0 a = a :: xs) /\ (∀ {α : Type u} (x : α) (xs : List α) (i : Nat) (a : α), (x :: xs).set (i + 1) a = x :: xs.set i a) := ⟨fun l i a => by simp, fun _ _ _ => rfl, fun _ _ _ _ => rfl⟩
theorem za{p:Prop}(h:p:=by omega):p:=h
theorem zb{p:Prop}(h:p:=by decide):p:=h
theorem zc{p:Prop}(h:p:=by kernel_rfl):p:=h
theorem zd{p:Prop}(h:p:=by simp):p:=h
theorem ze{p:Prop}(h:p:=by rfl):p:=h
theorem zf{p:Prop}(h:p:=by assumption):p:=h
theorem zg{p:Prop}(h:p:=by show w.heap.size<=w.heap.size+1;omega):p:=h
theorem zh{p:Prop}(h:p:=by repeat(first|(with_reducible first|exact HB.out|apply below_alloc|apply pw_below_drewN|apply below_drew1|refine below_set ?_ (Aside0.out (by assumption)))|exact HB.out)):p:=h
theorem zi{p:Prop}(h:p:=by rw[e_];rfl):p:=h
theorem zj{p:Prop}(h:p:=by repeat(first|(with_reducible first|exact HB.out|apply below_alloc|apply pw_below_drewN|apply below_drew1)|exact HB.out|exact Below.refl _ _)):p:=h
theorem zk{p:Prop}(h:p:=by simp;omega):p:=h
theorem zl{p:Prop}(h:p:=by repeat(first|(with_reducible first|exact HB.out|apply below_alloc|apply pw_below_drewN|apply below_drew1|refine below_set ?_ (Aside0.out (by assumption)))|exact HB.out|exact Below.refl _ _)):p:=h
theorem zm{p:Prop}(h:p:=by simp only[putAll,Act.put,zL]):p:=h
theorem zn{p:Prop}(h:p:=by simp only[List.map_toArray,List.map_cons,List.map_nil];rfl):p:=h
theorem zo{p:Prop}(h:p:=by repeat(first|(with_reducible first|exact HK.out|apply Kept.alloc|apply Kept.drewN|apply Kept.drew|refine Kept.setCell ?_ (.inr U.out) _|refine Kept.setCell ?_ (.inr Z.out) _)|exact HK.out)):p:=h
theorem zp{p:Prop}(h:p:=by rw[List.length_map];omega):p:=h
theorem zq{p:Prop}(h:p:=by rw[List.length_take];omega):p:=h
theorem zr{p:Prop}(h:p:=by rw[ints_length];omega):p:=h
theorem zt{p:Prop}(h:p:=by repeat(first|(with_reducible first|exact HK.out|apply Kept.alloc|apply Kept.drewN|apply Kept.drew)|exact HK.out)):p:=h
theorem zu{p:Prop}(h:p:=by rw[decide_eq_true_eq];omega):p:=h
theorem zw{p:Prop}(h:p:=by rw[List.length_set];omega):p:=h
theorem zx{p:Prop}(h:p:=by simpa using ht):p:=h
theorem zy{p:Prop}(h:p:=by refine bkR ?_;refine blk_put (cs:= #[.int .i64 5,.int .i64 2,.slice none 0 0]) ?_ 2 _ rfl;refine bkR ?_;refine blk_put (cs:= #[.int .i64 5,.int .i64 0,.slice none 0 0]) ?_ 1 _ rfl;refine bkR ?_;refine blk_put (cs:= #[.int .i64 0,.int .i64 0,.slice none 0 0]) ?_ 0 _ rfl;refine bkR ?_;exact G.out):p:=h
theorem zz{p:Prop}(h:p:=by refine bkR ?_;refine blk_far ?_ G.out _;refine bkR ?_;refine blk_far ?_ G.out _;refine bkR ?_;refine blk_far ?_ G.out _;refine bkR ?_;exact D.out):p:=h
theorem zaa{p:Prop}(h:p:=by rw[Int.toNat_natCast];omega):p:=h
theorem zab{p:Prop}(h:p:=by rw[putC_length];exact hy.2):p:=h
theorem zac{p:Prop}(h:p:=by simp[Value.ownBlock]):p:=h
theorem zad{p:Prop}(h:p:=by have:=S.small;omega):p:=h
theorem zae{p:Prop}(h:p:=by simpa using h):p:=h
theorem zaf{p:Prop}(h:p:=by rw[this];rfl):p:=h
theorem zag{p:Prop}(h:p:=by refine bkR ?_;refine blk_put (cs:= #[.int .i64 0,.int .i64 0,.slice none 0 0]) ?_ 2 _ rfl;refine bkR ?_;refine blk_put (cs:= #[.int .i64 0,.int .i64 L,.slice none 0 0]) ?_ 1 _ rfl;refine bkR ?_;refine blk_put (cs:= #[.int .i64 U,.int .i64 L,.slice none 0 0]) ?_ 0 _ rfl;refine bkR ?_;exact G.out):p:=h
theorem zah{p:Prop}(h:p:=by rw[List.length_set];exact hl):p:=h
theorem zai{p:Prop}(h:p:=by rw[fillTo_length];exact hlt):p:=h
theorem zaj{p:Prop}(h:p:=by rw[rowsOf_length];exact h0):p:=h
theorem zak{p:Prop}(h:p:=by rw[HLE.out];exact hkl):p:=h
theorem zal{p:Prop}(h:p:=by rw[e_];exact bb.out):p:=h
theorem zam{p:Prop}(h:p:=by rw[e_];exact ap.out):p:=h
theorem zan{p:Prop}(h:p:=by rw[e_];exact an.out):p:=h
theorem zao{p:Prop}(h:p:=by have:=HLN.out;omega):p:=h
theorem zap{p:Prop}(h:p:=by refine bkR ?_;refine blk_put (cs:= #[.int .i64 ai,.int .i64 ak,.slice none 0 0]) ?_ 2 _ rfl;refine bkR ?_;refine blk_put (cs:= #[.int .i64 ai,.int .i64 0,.slice none 0 0]) ?_ 1 _ rfl;refine bkR ?_;refine blk_put (cs:= #[.int .i64 0,.int .i64 0,.slice none 0 0]) ?_ 0 _ rfl;refine bkR ?_;exact I.out):p:=h
theorem zaq{p:Prop}(h:p:=by refine bkR ?_;refine blk_put (cs:= #[.int .i64 ah,.int .i64 aj,.slice none 0 0]) ?_ 2 _ rfl;refine bkR ?_;refine blk_put (cs:= #[.int .i64 ah,.int .i64 0,.slice none 0 0]) ?_ 1 _ rfl;refine bkR ?_;refine blk_put (cs:= #[.int .i64 0,.int .i64 0,.slice none 0 0]) ?_ 0 _ rfl;refine bkR ?_;exact O.out):p:=h
theorem zar{p:Prop}(h:p:=by refine bkR ?_;refine blk_put (cs:= #[.int .i64 ae,.int .i64 af,.slice none 0 0]) ?_ 2 _ rfl;refine bkR ?_;refine blk_put (cs:= #[.int .i64 ae,.int .i64 0,.slice none 0 0]) ?_ 1 _ rfl;refine bkR ?_;refine blk_put (cs:= #[.int .i64 0,.int .i64 0,.slice none 0 0]) ?_ 0 _ rfl;refine bkR ?_;exact G.out):p:=h
theorem zas{p:Prop}(h:p:=by refine bkR ?_;refine blk_put (cs:= #[.int .i64 O,.int .i64 Y,.slice none 0 0]) ?_ 2 _ rfl;refine bkR ?_;refine blk_put (cs:= #[.int .i64 O,.int .i64 0,.slice none 0 0]) ?_ 1 _ rfl;refine bkR ?_;refine blk_put (cs:= #[.int .i64 0,.int .i64 0,.slice none 0 0]) ?_ 0 _ rfl;refine bkR ?_;exact J.out):p:=h
theorem zat{p:Prop}(h:p:=by refine bkR ?_;refine blk_put (cs:= #[.int .i64 0,.int .i64 0,.slice none 0 0]) ?_ 2 _ rfl;refine bkR ?_;refine blk_put (cs:= #[.int .i64 0,.int .i64 0,.slice none 0 0]) ?_ 1 _ rfl;refine bkR ?_;refine blk_put (cs:= #[.int .i64 0,.int .i64 0,.slice none 0 0]) ?_ 0 _ rfl;refine bkR ?_;exact I.out):p:=h
theorem zau{p:Prop}(h:p:=by first|exact HK.out.1|exact(show Kept w _ (fun k_=>P0_ k_)from by repeat(first|(with_reducible first|exact HK.out|apply Kept.alloc|apply Kept.drewN|apply Kept.drew)|exact HK.out)).1):p:=h
theorem zav{p:Prop}(h:p:=by refine bkR ?_;refine blk_far ?_ ag.out _;refine bkR ?_;refine blk_far ?_ ag.out _;refine bkR ?_;refine blk_far ?_ ag.out _;refine bkR ?_;exact I.out):p:=h
theorem zaw{p:Prop}(h:p:=by refine bkR ?_;refine blk_far ?_ af.out _;refine bkR ?_;refine blk_far ?_ af.out _;refine bkR ?_;refine blk_far ?_ af.out _;refine bkR ?_;exact D.out):p:=h
theorem zax{p:Prop}(h:p:=by refine bkR ?_;refine blk_far ?_ ae.out _;refine bkR ?_;refine blk_far ?_ ae.out _;refine bkR ?_;refine blk_far ?_ ae.out _;refine bkR ?_;exact D.out):p:=h
theorem zay{p:Prop}(h:p:=by refine bkR ?_;refine blk_far ?_ aa.out _;refine bkR ?_;refine blk_far ?_ aa.out _;refine bkR ?_;refine blk_far ?_ aa.out _;refine bkR ?_;exact D.out):p:=h
theorem zaz{p:Prop}(h:p:=by have hg:=grownBy_putObj' V D (.deferred none);exact⟨hg.os,hg.tape,hg.output,hg.size,fun k hk=>World.putObj_heap_other (by omega)⟩):p:=h
theorem za0{p:Prop}(h:p:=by rw[List.length_take];have h_:((X):Int)<=(G.length:Int):=of_decide_eq_true asE;omega):p:=h
theorem za1{p:Prop}(h:p:=by have h_:=Kd.R_ne HO_423002.out G.out (by decide);intro e_;exact h_ (by rw[e_];rfl)):p:=h
theorem za2{p:Prop}(h:p:=by have h_:=Kd.R_ne HO_423002.out D.out (by decide);intro e_;exact h_ (by rw[e_];rfl)):p:=h
theorem za3{p:Prop}(h:p:=by first|rfl|(simp;done)|(simp only[<-Z]<;>(first|rfl|simp))|(simp[*];done)):p:=h
theorem za4{p:Prop}(h:p:=by rw[List.length_append,List.length_singleton];omega):p:=h
theorem za5{p:Prop}(h:p:=by repeat(first|exact HB.out|apply pw_below_drewN)):p:=h
theorem za6{p:Prop}(h:p:=by rw[flat_len hU,hlen];exact Int.ofNat_lt.2 hix):p:=h
theorem za7{p:Prop}(h:p:=by rw[testBit_ofL];exact decide_eq_false hbx):p:=h
theorem za8{p:Prop}(h:p:=by have:=HSS.out;show w.heap.size+4<_;omega):p:=h
theorem za9{p:Prop}(h:p:=by have:=HSS.out;show w.heap.size+3<_;omega):p:=h
theorem zba{p:Prop}(h:p:=by rw[rowsOf_length];have:=hin x hx;omega):p:=h
theorem zbb{p:Prop}(h:p:=by rw[ints_length,g5];exact Nat.le_refl _):p:=h
end Go
namespace Go.Proofs.YtjgcocfnilhggaaDoor.Q
open RowKit YtjgcocfnilhggaaDoorW.PrintWords YtjgcocfnilhggaaDoorW.PrintLast YtjgcocfnilhggaaDoorW.PrintMore
theorem rsE{p:Prop}(h:p:=by first|rfl|(simp;done)|(simp[*];done)):p:=h
theorem leE{p:Prop}(h:p:=by first|omega|exact Nat.le_refl _):p:=h
theorem bkA{w W:World}{g:Nat}{o:Obj}(h:w.heap[g]? =some o)(k:w.heap[g]? =some o->W.heap[g]? =some o:=by intro h_;(with_reducible repeat(first|refine blk_drewN ?_ _|refine blk_drew ?_|refine blk_alloc ?_ _));exact h_):W.heap[g]? =some o:=k h
theorem bkB{w w1 W:World}{g:Nat}{o:Obj}(B:Aside0 (w.heap[g]? =some o))(hb:Below w1.heap.size w1 W)(k:w.heap[g]? =some o->w1.heap[g]? =some o:=by intro h_;(with_reducible repeat(first|refine blk_drewN ?_ _|refine blk_drew ?_|refine blk_alloc ?_ _));exact h_):Aside0 (W.heap[g]? =some o):=⟨blk_below (k B.out) hb⟩
theorem bkG{w w1 W:World}{g:Nat}{o:Obj}{row:Option Nat}(B:Aside0 (w.heap[g]? =some o))(hg:w1.grownBy W row)(hne:some g≠row)(k:w.heap[g]? =some o->w1.heap[g]? =some o:=by intro h_;(with_reducible repeat(first|refine blk_drewN ?_ _|refine blk_drew ?_|refine blk_alloc ?_ _));exact h_):Aside0 (W.heap[g]? =some o):=⟨blk_grown (k B.out) hg hne⟩
theorem bkR{w W:World}{g:Nat}{o:Obj}(h:w.heap[g]? =some o)(k:w.heap[g]? =some o->W.heap[g]? =some o:=by intro h_;(with_reducible repeat(first|refine blk_drewN ?_ _|refine blk_drew ?_|refine blk_alloc ?_ _));exact h_):W.heap[g]? =some o:=k h
theorem neL{w W:World}{g g':Nat}{o:Obj}(B:Aside0 (w.heap[g]? =some o))(hg:g'=W.heap.size)(k:w.heap[g]? =some o->W.heap[g]? =some o:=by intro h_;(with_reducible repeat(first|refine blk_drewN ?_ _|refine blk_drew ?_|refine blk_alloc ?_ _));exact h_):Aside0 (g≠g'):=⟨by rw[hg];exact Nat.ne_of_lt (blk_lt (k B.out))⟩
theorem neG{w W:World}{g g':Nat}{o:Obj}(B:Aside0 (w.heap[g]? =some o))(hg:g'=W.heap.size)(k:w.heap[g]? =some o->W.heap[g]? =some o:=by intro h_;(with_reducible repeat(first|refine blk_drewN ?_ _|refine blk_drew ?_|refine blk_alloc ?_ _));exact h_):Aside0 (g'≠g):=⟨by rw[hg];exact Nat.ne_of_gt (blk_lt (k B.out))⟩
theorem asE{p:Prop}(h:p:=by first|(with_reducible assumption)|assumption):p:=h
theorem rfE{p:Prop}(h:p:=by first|rfl|(simp[errW_none,errW_some]<;>rfl)|(simp[*,errW_none,errW_some]<;>rfl)):p:=h
theorem nilE{p:Prop}(h:p:=by first|exact Kd.R_nil _ _ _ _ _|exact Kd.N_nil _ _ _ _ _|exact Kd.V_nil _ _ _ _ _|exact Kd.Q_nil _ _ _ _ _|exact Kd.S_nil _ _ _ _ _):p:=h
theorem nofT: ¬(false=true):=by decide
theorem bindO{α β:Type}{x:Option α}{f:α->Option β}{r:β}(h:x.bind f=some r): ∃a,Aside0 (x=some a)/\f a=some r:=by
 obtain⟨a,h1,h2⟩:=Option.bind_eq_some_iff.mp h;exact⟨a,⟨h1⟩,h2⟩
theorem hbA{b:Nat}{w W W':World}(h:Below b w W)(k:Below b w W->Below b w W':=by intro h_;repeat(first|(with_reducible first|exact h_|apply below_alloc|apply pw_below_drewN|apply below_drew1|refine below_set ?_ (Aside0.out zf))|exact h_)):Below b w W':=k h
theorem hbB{w W1 W2 W:World}(B:Aside0 (Below w.heap.size w W1))(hb:Below W2.heap.size W2 W)(k:Below w.heap.size w W1->Below w.heap.size w W2:=by intro h_;repeat(first|(with_reducible first|exact h_|apply below_alloc|apply pw_below_drewN|apply below_drew1|refine below_set ?_ (Aside0.out zf))|exact h_)):Aside0 (Below w.heap.size w W):=⟨below_step (k B.out) hb⟩
theorem hbS{w W1 W2:World}{g:Nat}(B:Aside0 (Below w.heap.size w W1))(hg:g=W2.heap.size)(k:Below w.heap.size w W1->Below w.heap.size w W2:=by intro h_;repeat(first|(with_reducible first|exact h_|apply below_alloc|apply pw_below_drewN|apply below_drew1|refine below_set ?_ (Aside0.out zf))|exact h_)):Aside0 (w.heap.size<=g):=⟨hg▸below_size (k B.out)⟩
section
variable {α:Type} {d:Kd α} {e base n:Nat} {w w1 w2 W:World} {ok:Nat->Prop} {v:Value} {xs:List α} {A:Option Addr}
theorem kdA(h:Kd.R d e w base ok v xs)(k:Kd.R d e w base ok v xs->Kd.R d e W base ok v xs:=by intro h_;(with_reducible repeat(first|apply Kd.R_alloc|apply Kd.R_drewN|apply Kd.R_drew));exact h_):Kd.R d e W base ok v xs:=k h
theorem kdB(B:Aside0 (Kd.R d e w base ok v xs))(hb:Below w1.heap.size w1 W)(k:Kd.R d e w base ok v xs->Kd.R d e w1 base ok v xs:=by intro h_;(with_reducible repeat(first|apply Kd.R_alloc|apply Kd.R_drewN|apply Kd.R_drew));exact h_):Aside0 (Kd.R d e W base ok v xs):=⟨Kd.R_below (k B.out) hb⟩
theorem kcA(h:Kd.C d w A n xs)(k:Kd.C d w A n xs->Kd.C d W A n xs:=by intro h_;repeat(first|exact h_|(with_reducible refine Kd.C_alloc ?_ _)|(with_reducible refine Kd.C_drewN ?_ _)|(with_reducible refine Kd.C_drew ?_))):Kd.C d W A n xs:=k h
theorem kcB(H:Aside0 (Kd.C d w A n xs))(B:Aside0 (Below w.heap.size w w1))(k:Kd.C d w1 A n xs->Kd.C d W A n xs:=by intro h_;repeat(first|exact h_|(with_reducible refine Kd.C_alloc ?_ _)|(with_reducible refine Kd.C_drewN ?_ _)|(with_reducible refine Kd.C_drew ?_))):Kd.C d W A n xs:=k (Kd.C_below H.out B.out)
end
section
variable {w:World} {g:Nat} {t:TypeId} {a b c d e f x y:Value}
theorem cell3(h:Aside0 (w.heap[g]? =some (.cells #[a,b,c] t (0,0)))):w.cell? ⟨g,0,none⟩=some a/\w.cell? ⟨g,1,none⟩=some b/\w.cell? ⟨g,2,none⟩=some c/\w.frozen? ⟨g,0,none⟩=false/\w.frozen? ⟨g,1,none⟩=false/\w.frozen? ⟨g,2,none⟩=false:=⟨blk_cell h.out 0,blk_cell h.out 1,blk_cell h.out 2,blk_frozen h.out 0,blk_frozen h.out 1,blk_frozen h.out 2⟩
end
section
variable {P:Program} {ops:Array Oper} {rest:List Oper} {o:Oper} {a:Act} {Q:Exit->Act->World->Prop} {W:World}
theorem gC(f:FuncId){xs:Array Operand}{ts:Array TypeId}(_ho:o.op= .call { callee:= .value (.func f),args:=xs,argTypes:=ts })(h:wpList P ops Q (o::rest) a W):wpList P ops Q (o::rest) a W:=h
theorem gD(N:Tmp)(_hN:o.dst=some N)(h:wpList P ops Q (o::rest) a W):wpList P ops Q (o::rest) a W:=h
theorem cG(N:Option Tmp){f:FuncId}{fn:Func}{xs:Array Operand}{ts:Array TypeId}(hf:P.funcs[f]? =some fn)(args:Array Value)
 (h:Calls P f args W fun e w'=> ∃v,e= .returned v/\wpList P ops Q rest (a.put N v) w') (hd:o.dst=N:=by exact rfl) (hg:o.guard=none:=by exact rfl) (hname:(fn.name== "runtime.NumGoroutine")=false:=by kernel_rfl) (hb:fn.body.isSome=true:=by exact rfl)
 (hop:o.op= .call { callee:= .value (.func f),args:=xs,argTypes:=ts } :=by exact rfl) (hargs:xs.map a.eval=args:=by(try simp only[List.map_toArray,List.map_cons,List.map_nil]);first|done|rfl|(simp only[List.length_drop,List.length_take];rfl)):wpList P ops Q (o::rest) a W:=
 goesL_ N hd hg hf hname hb args hop hargs h
theorem bE(N:Tmp)(cs:Array Value)(t:TypeId)
 (h: ∀g,g=W.heap.size-> ∀w1,w1.heap[g]? =some (.cells cs t (0,0))->Below W.heap.size W w1->wpList P ops Q rest (a.put o.dst (.pointer (some ⟨g,0,none⟩))) w1) (_hd:o.dst=some N:=by exact rfl) (hgd:o.guard=none:=by exact rfl)
 (hrun:(execOp a.eval o).run P W= .ok (.value (.pointer (some ⟨W.heap.size,0,none⟩))) (W.alloc (.cells cs t (0,0))):=by first|(go_simp;done)|(go_simp;rfl)):wpList P ops Q (o::rest) a W:=
 box_event hgd (N:=N) _hd hrun h
end
def mB(n m:Nat):Array Bool:=((List.range n).map fun i=>m.testBit i).toArray
section
variable {P:Program} {ops:Array Oper} {Q:Exit->Act->World->Prop} {md:Region.Mode} {S:World->Prop} {ds:List Nat} {T:Bool×List (List Nat×List Nat)} {B:List Nat} {oi:Oper} {v:Value} {fuel:Nat} {l:Array Bool} {a a':Act} {w:World}
theorem pu(i:Nat)(N:Option Tmp)(l':Array Bool)(hT:Aside0 (rtab md ops=T))(h:wpAnyLast P md ops Q S ds fuel l' a' w)(hi:ops[i]? =some oi:=by exact rfl)(hN:oi.dst=N:=by exact rfl)(hc:anyT T l.toList l'.toList i=true:=by kernel_rfl)
 (hQ: ∀c a w,Q (.panic c) (a.put oi.dst v) w->Q (.panic c) a w:=by exact(fun _ _ _ h=>h)) (hy:Yields P ops oi v a:=by(refine Or.inl ⟨rfl,?_⟩;intro w';go_simp;with_reducible rfl)) (ha:a.put N v=a':=by(simp only[Act.put,zL,i64_w,i32_w];rfl)):wpAnyLast P md ops Q S ds (fuel+1) l a w:=
 pure_ l' hi hN (any_of hT.out hc) hQ hy ha h
theorem tk1(i:Nat)(N:Option Tmp)(l':Array Bool)(hT:Aside0 (rtab md ops=T))(hW:Aside0 (waitsOk T.2 B=true))(hS:S w)(h:wpAnyLast P md ops Q S ds fuel l' a' w)(hi:ops[i]? =some oi:=by exact rfl)(hN:oi.dst=N:=by exact rfl)(hc:takeW T B ds l.toList l'.toList i=true:=by kernel_rfl)
 (hQ: ∀c a w,Q (.panic c) (a.put oi.dst v) w->Q (.panic c) a w:=by exact(fun _ _ _ h=>h)) (hy:YieldsIf P ops S oi v a:=by(refine Or.inl ⟨rfl,?_⟩;rintro w' s0;go_simp;with_reducible rfl)) (ha:a.put N v=a':=by(simp only[Act.put,zL,i64_w,i32_w];rfl)):wpAnyLast P md ops Q S ds (fuel+1) l a w:=
 take_ l' hi hN (take_ofW hT.out hW.out hc) hQ hy hS ha h
theorem tk2(i:Nat)(N:Option Tmp)(l':Array Bool)(hT:Aside0 (rtab md ops=T))(hW:Aside0 (waitsOk T.2 B=true))(hS:S w)(h:wpAnyLast P md ops Q S ds fuel l' a' w)(hi:ops[i]? =some oi:=by exact rfl)(hN:oi.dst=N:=by exact rfl)(hc:takeW T B ds l.toList l'.toList i=true:=by kernel_rfl)
 (hQ: ∀c a w,Q (.panic c) (a.put oi.dst v) w->Q (.panic c) a w:=by exact(fun _ _ _ h=>h)) (hy:YieldsIf P ops S oi v a:=by(refine Or.inl ⟨rfl,?_⟩;rintro w' ⟨s0,s1⟩;go_simp;with_reducible rfl)) (ha:a.put N v=a':=by(simp only[Act.put,zL,i64_w,i32_w];rfl)):wpAnyLast P md ops Q S ds (fuel+1) l a w:=
 take_ l' hi hN (take_ofW hT.out hW.out hc) hQ hy hS ha h
theorem tk3(i:Nat)(N:Option Tmp)(l':Array Bool)(hT:Aside0 (rtab md ops=T))(hW:Aside0 (waitsOk T.2 B=true))(hS:S w)(h:wpAnyLast P md ops Q S ds fuel l' a' w)(hi:ops[i]? =some oi:=by exact rfl)(hN:oi.dst=N:=by exact rfl)(hc:takeW T B ds l.toList l'.toList i=true:=by kernel_rfl)
 (hQ: ∀c a w,Q (.panic c) (a.put oi.dst v) w->Q (.panic c) a w:=by exact(fun _ _ _ h=>h)) (hy:YieldsIf P ops S oi v a:=by(refine Or.inl ⟨rfl,?_⟩;rintro w' ⟨s0,s1,s2⟩;go_simp;with_reducible rfl)) (ha:a.put N v=a':=by(simp only[Act.put,zL,i64_w,i32_w];rfl)):wpAnyLast P md ops Q S ds (fuel+1) l a w:=
 take_ l' hi hN (take_ofW hT.out hW.out hc) hQ hy hS ha h
theorem tk4(i:Nat)(N:Option Tmp)(l':Array Bool)(hT:Aside0 (rtab md ops=T))(hW:Aside0 (waitsOk T.2 B=true))(hS:S w)(h:wpAnyLast P md ops Q S ds fuel l' a' w)(hi:ops[i]? =some oi:=by exact rfl)(hN:oi.dst=N:=by exact rfl)(hc:takeW T B ds l.toList l'.toList i=true:=by kernel_rfl)
 (hQ: ∀c a w,Q (.panic c) (a.put oi.dst v) w->Q (.panic c) a w:=by exact(fun _ _ _ h=>h)) (hy:YieldsIf P ops S oi v a:=by(refine Or.inl ⟨rfl,?_⟩;rintro w' ⟨s0,s1,s2,s3⟩;go_simp;with_reducible rfl)) (ha:a.put N v=a':=by(simp only[Act.put,zL,i64_w,i32_w];rfl)):wpAnyLast P md ops Q S ds (fuel+1) l a w:=
 take_ l' hi hN (take_ofW hT.out hW.out hc) hQ hy hS ha h
theorem tk5(i:Nat)(N:Option Tmp)(l':Array Bool)(hT:Aside0 (rtab md ops=T))(hW:Aside0 (waitsOk T.2 B=true))(hS:S w)(h:wpAnyLast P md ops Q S ds fuel l' a' w)(hi:ops[i]? =some oi:=by exact rfl)(hN:oi.dst=N:=by exact rfl)(hc:takeW T B ds l.toList l'.toList i=true:=by kernel_rfl)
 (hQ: ∀c a w,Q (.panic c) (a.put oi.dst v) w->Q (.panic c) a w:=by exact(fun _ _ _ h=>h)) (hy:YieldsIf P ops S oi v a:=by(refine Or.inl ⟨rfl,?_⟩;rintro w' ⟨s0,s1,s2,s3,s4⟩;go_simp;with_reducible rfl)) (ha:a.put N v=a':=by(simp only[Act.put,zL,i64_w,i32_w];rfl)):wpAnyLast P md ops Q S ds (fuel+1) l a w:=
 take_ l' hi hN (take_ofW hT.out hW.out hc) hQ hy hS ha h
theorem tk6(i:Nat)(N:Option Tmp)(l':Array Bool)(hT:Aside0 (rtab md ops=T))(hW:Aside0 (waitsOk T.2 B=true))(hS:S w)(h:wpAnyLast P md ops Q S ds fuel l' a' w)(hi:ops[i]? =some oi:=by exact rfl)(hN:oi.dst=N:=by exact rfl)(hc:takeW T B ds l.toList l'.toList i=true:=by kernel_rfl)
 (hQ: ∀c a w,Q (.panic c) (a.put oi.dst v) w->Q (.panic c) a w:=by exact(fun _ _ _ h=>h)) (hy:YieldsIf P ops S oi v a:=by(refine Or.inl ⟨rfl,?_⟩;rintro w' ⟨s0,s1,s2,s3,s4,s5⟩;go_simp;with_reducible rfl)) (ha:a.put N v=a':=by(simp only[Act.put,zL,i64_w,i32_w];rfl)):wpAnyLast P md ops Q S ds (fuel+1) l a w:=
 take_ l' hi hN (take_ofW hT.out hW.out hc) hQ hy hS ha h
theorem tk7(i:Nat)(N:Option Tmp)(l':Array Bool)(hT:Aside0 (rtab md ops=T))(hW:Aside0 (waitsOk T.2 B=true))(hS:S w)(h:wpAnyLast P md ops Q S ds fuel l' a' w)(hi:ops[i]? =some oi:=by exact rfl)(hN:oi.dst=N:=by exact rfl)(hc:takeW T B ds l.toList l'.toList i=true:=by kernel_rfl)
 (hQ: ∀c a w,Q (.panic c) (a.put oi.dst v) w->Q (.panic c) a w:=by exact(fun _ _ _ h=>h)) (hy:YieldsIf P ops S oi v a:=by(refine Or.inl ⟨rfl,?_⟩;rintro w' ⟨s0,s1,s2,s3,s4,s5,s6⟩;go_simp;with_reducible rfl)) (ha:a.put N v=a':=by(simp only[Act.put,zL,i64_w,i32_w];rfl)):wpAnyLast P md ops Q S ds (fuel+1) l a w:=
 take_ l' hi hN (take_ofW hT.out hW.out hc) hQ hy hS ha h
end
end Go.Proofs.YtjgcocfnilhggaaDoor.Q
namespace Go.Proofs.YtjgcocfnilhggaaDoor.Q
open Go.RowKit Go.Proofs.YtjgcocfnilhggaaDoorW.PrintWords Go.Proofs.YtjgcocfnilhggaaDoorW.PrintLast Go.Proofs.YtjgcocfnilhggaaDoorW.PrintMore
set_option linter.unusedVariables false
theorem aK{p:Prop}(h:p):Aside0 p:=⟨h⟩
theorem zF {α:Type} {d:Kd α} {e base t g:Nat} {ok:Nat→Prop} {w:World} {v:Value} {xs:List α} {cells:Array Value} (h:d.R e w base ok v xs) (hb:w.heap[g]? =some (.cells cells t (0,0))) (u0 u1 u2:Value) (ht: ∀q,q∈e::d.E→q≠t:=by decide):d.R e (((w.setCell ⟨g,0,none⟩ u0).setCell ⟨g,1,none⟩ u1).setCell ⟨g,2,none⟩ u2) base ok v xs:=Kd.R_mono (Kd.R_far (p:=⟨g,2,none⟩) (Kd.R_far (p:=⟨g,1,none⟩) (Kd.R_far (p:=⟨g,0,none⟩) (Kd.R_types h hb ht) (fun _ hk=>hk.2) u0) (fun _ hk=>hk.2) u1) (fun _ hk=>hk.2) u2) (fun _ h_=>h_.1)
section
variable {P:Program} {ops:Array Oper} {Q:Exit→Act→World→Prop} {md:Region.Mode} {S:World→Prop} {ds:List Nat} {T:Bool×List (List Nat×List Nat)} {oi:Oper} {v:Value} {fuel:Nat} {l:Array Bool} {a a':Act} {w:World}
theorem zpu (i:Nat) (N:Option Tmp) (l':Array Bool) (h:wpAnyLast P md ops Q S ds fuel l' a' w) (hi:ops[i]? =some oi:=by exact rfl) (hN:oi.dst=N:=by exact rfl) (hc:anyB md ops l l' i=true:=by kernel_rfl) (hQ: ∀c a w,Q (.panic c) (a.put oi.dst v) w→Q (.panic c) a w:=by exact (fun _ _ _ h=>h)) (hy:Yields P ops oi v a:=by (refine Or.inl ⟨by rfl,?_⟩;intro w';go_simp;with_reducible rfl)) (ha:a.put N v=a':=by (simp only[Act.put,zL,i64_w,i32_w];rfl)):wpAnyLast P md ops Q S ds (fuel+1) l a w:=pure_ l' hi hN hc hQ hy ha h
theorem ztk1 (i:Nat) (N:Option Tmp) (l':Array Bool) (hS:S w) (h:wpAnyLast P md ops Q S ds fuel l' a' w) (hi:ops[i]? =some oi:=by exact rfl) (hN:oi.dst=N:=by exact rfl) (hc:takeB md ops ds l l' i=true:=by kernel_rfl) (hQ: ∀c a w,Q (.panic c) (a.put oi.dst v) w→Q (.panic c) a w:=by exact (fun _ _ _ h=>h)) (hy:YieldsIf P ops S oi v a:=by (refine Or.inl ⟨by rfl,?_⟩;intro w' s0;go_simp;with_reducible rfl)) (ha:a.put N v=a':=by (simp only[Act.put,zL,i64_w,i32_w];rfl)):wpAnyLast P md ops Q S ds (fuel+1) l a w:=take_ l' hi hN hc hQ hy hS ha h
theorem ztk2 (i:Nat) (N:Option Tmp) (l':Array Bool) (hS:S w) (h:wpAnyLast P md ops Q S ds fuel l' a' w) (hi:ops[i]? =some oi:=by exact rfl) (hN:oi.dst=N:=by exact rfl) (hc:takeB md ops ds l l' i=true:=by kernel_rfl) (hQ: ∀c a w,Q (.panic c) (a.put oi.dst v) w→Q (.panic c) a w:=by exact (fun _ _ _ h=>h)) (hy:YieldsIf P ops S oi v a:=by (refine Or.inl ⟨by rfl,?_⟩;rintro w' ⟨s0,s1⟩;go_simp;with_reducible rfl)) (ha:a.put N v=a':=by (simp only[Act.put,zL,i64_w,i32_w];rfl)):wpAnyLast P md ops Q S ds (fuel+1) l a w:=take_ l' hi hN hc hQ hy hS ha h
theorem ztk3 (i:Nat) (N:Option Tmp) (l':Array Bool) (hS:S w) (h:wpAnyLast P md ops Q S ds fuel l' a' w) (hi:ops[i]? =some oi:=by exact rfl) (hN:oi.dst=N:=by exact rfl) (hc:takeB md ops ds l l' i=true:=by kernel_rfl) (hQ: ∀c a w,Q (.panic c) (a.put oi.dst v) w→Q (.panic c) a w:=by exact (fun _ _ _ h=>h)) (hy:YieldsIf P ops S oi v a:=by (refine Or.inl ⟨by rfl,?_⟩;rintro w' ⟨s0,s1,s2⟩;go_simp;with_reducible rfl)) (ha:a.put N v=a':=by (simp only[Act.put,zL,i64_w,i32_w];rfl)):wpAnyLast P md ops Q S ds (fuel+1) l a w:=take_ l' hi hN hc hQ hy hS ha h
theorem ztk4 (i:Nat) (N:Option Tmp) (l':Array Bool) (hS:S w) (h:wpAnyLast P md ops Q S ds fuel l' a' w) (hi:ops[i]? =some oi:=by exact rfl) (hN:oi.dst=N:=by exact rfl) (hc:takeB md ops ds l l' i=true:=by kernel_rfl) (hQ: ∀c a w,Q (.panic c) (a.put oi.dst v) w→Q (.panic c) a w:=by exact (fun _ _ _ h=>h)) (hy:YieldsIf P ops S oi v a:=by (refine Or.inl ⟨by rfl,?_⟩;rintro w' ⟨s0,s1,s2,s3⟩;go_simp;with_reducible rfl)) (ha:a.put N v=a':=by (simp only[Act.put,zL,i64_w,i32_w];rfl)):wpAnyLast P md ops Q S ds (fuel+1) l a w:=take_ l' hi hN hc hQ hy hS ha h
theorem ztk5 (i:Nat) (N:Option Tmp) (l':Array Bool) (hS:S w) (h:wpAnyLast P md ops Q S ds fuel l' a' w) (hi:ops[i]? =some oi:=by exact rfl) (hN:oi.dst=N:=by exact rfl) (hc:takeB md ops ds l l' i=true:=by kernel_rfl) (hQ: ∀c a w,Q (.panic c) (a.put oi.dst v) w→Q (.panic c) a w:=by exact (fun _ _ _ h=>h)) (hy:YieldsIf P ops S oi v a:=by (refine Or.inl ⟨by rfl,?_⟩;rintro w' ⟨s0,s1,s2,s3,s4⟩;go_simp;with_reducible rfl)) (ha:a.put N v=a':=by (simp only[Act.put,zL,i64_w,i32_w];rfl)):wpAnyLast P md ops Q S ds (fuel+1) l a w:=take_ l' hi hN hc hQ hy hS ha h
theorem ztk6 (i:Nat) (N:Option Tmp) (l':Array Bool) (hS:S w) (h:wpAnyLast P md ops Q S ds fuel l' a' w) (hi:ops[i]? =some oi:=by exact rfl) (hN:oi.dst=N:=by exact rfl) (hc:takeB md ops ds l l' i=true:=by kernel_rfl) (hQ: ∀c a w,Q (.panic c) (a.put oi.dst v) w→Q (.panic c) a w:=by exact (fun _ _ _ h=>h)) (hy:YieldsIf P ops S oi v a:=by (refine Or.inl ⟨by rfl,?_⟩;rintro w' ⟨s0,s1,s2,s3,s4,s5⟩;go_simp;with_reducible rfl)) (ha:a.put N v=a':=by (simp only[Act.put,zL,i64_w,i32_w];rfl)):wpAnyLast P md ops Q S ds (fuel+1) l a w:=take_ l' hi hN hc hQ hy hS ha h
theorem ztk7 (i:Nat) (N:Option Tmp) (l':Array Bool) (hS:S w) (h:wpAnyLast P md ops Q S ds fuel l' a' w) (hi:ops[i]? =some oi:=by exact rfl) (hN:oi.dst=N:=by exact rfl) (hc:takeB md ops ds l l' i=true:=by kernel_rfl) (hQ: ∀c a w,Q (.panic c) (a.put oi.dst v) w→Q (.panic c) a w:=by exact (fun _ _ _ h=>h)) (hy:YieldsIf P ops S oi v a:=by (refine Or.inl ⟨by rfl,?_⟩;rintro w' ⟨s0,s1,s2,s3,s4,s5,s6⟩;go_simp;with_reducible rfl)) (ha:a.put N v=a':=by (simp only[Act.put,zL,i64_w,i32_w];rfl)):wpAnyLast P md ops Q S ds (fuel+1) l a w:=take_ l' hi hN hc hQ hy hS ha h
theorem zpo (i:Nat) (N:Option Tmp) (l':Array Bool) (hT:Aside0 (rtab md ops=T)) (h:wpAnyLast P md ops Q S ds fuel l' a' w) (hi:ops[i]? =some oi:=by exact rfl) (hN:oi.dst=N:=by exact rfl) (hc:anyT T l.toList l'.toList i=true:=by kernel_rfl) (hQ: ∀c a w,Q (.panic c) (a.put oi.dst undef) w→Q (.panic c) a w:=by exact (fun _ _ _ h=>h)) (hy:Yields P ops oi undef a:=by exact (Or.inr ⟨by rfl,rfl⟩)) (ha:a.put N undef=a':=by (simp only[Act.put,zL,i64_w,i32_w];rfl)):wpAnyLast P md ops Q S ds (fuel+1) l a w:=pure_ l' hi hN (any_of hT.out hc) hQ hy ha h
theorem zon (i:Nat) (N:Option Tmp) (l':Array Bool) (h: ∀K:Act→World→Prop,Shut (∀a' w',S w'→(S w'→wpAnyLast P md ops Q S ds fuel l' a' w')→K a' w')→if Region.wanted oi (yielded ops a.tmps)=true then Oper.wp P oi a w K Q else K (a.put N undef) w) (hi:ops[i]? =some oi:=by exact rfl) (hN:oi.dst=N:=by exact rfl) (hc:readyB md ops l l' i=true:=by kernel_rfl) (hd:i∉ds:=by decide):wpAnyLast P md ops Q S ds (fuel+1) l a w:=one_ l' hi hN hc hd h
theorem zoh (i:Nat) (N:Option Tmp) (l':Array Bool) (hT:Aside0 (rtab md ops=T)) (h: ∀K:Act→World→Prop,Shut (∀a' w',S w'→(S w'→wpAnyLast P md ops Q S ds fuel l' a' w')→K a' w')→if Region.wanted oi (yielded ops a.tmps)=true then Oper.wp P oi a w K Q else K (a.put N undef) w) (hi:ops[i]? =some oi:=by exact rfl) (hN:oi.dst=N:=by exact rfl) (hc:(readyT T.2 l.toList==[i]&&l.toList.set i true==l'.toList)=true:=by kernel_rfl) (hd:i∉ds:=by decide):wpAnyLast P md ops Q S ds (fuel+1) l a w:=one_ l' hi hN (one_of hT.out hc) hd h
theorem zln (i:Nat) (N:Option Tmp) (l':Array Bool) (h: ∀K:Act→World→Prop,Shut (∀a' w',wpAnyLast P md ops Q S ds fuel l' a' w'→K a' w')→if Region.wanted oi (yielded ops a.tmps)=true then Oper.wp P oi a w K Q else K (a.put N undef) w) (hi:ops[i]? =some oi:=by exact rfl) (hN:oi.dst=N:=by exact rfl) (hc:readyB md ops l l' i=true:=by kernel_rfl) (hd:i∈ds:=by decide):wpAnyLast P md ops Q S ds (fuel+1) l a w:=last_ l' hi hN hc hd h
theorem zlh (i:Nat) (N:Option Tmp) (l':Array Bool) (hT:Aside0 (rtab md ops=T)) (h: ∀K:Act→World→Prop,Shut (∀a' w',wpAnyLast P md ops Q S ds fuel l' a' w'→K a' w')→if Region.wanted oi (yielded ops a.tmps)=true then Oper.wp P oi a w K Q else K (a.put N undef) w) (hi:ops[i]? =some oi:=by exact rfl) (hN:oi.dst=N:=by exact rfl) (hc:(readyT T.2 l.toList==[i]&&l.toList.set i true==l'.toList)=true:=by kernel_rfl) (hd:i∈ds:=by decide):wpAnyLast P md ops Q S ds (fuel+1) l a w:=last_ l' hi hN (one_of hT.out hc) hd h
theorem znm (N:Option Tmp) {x:Act} (h:wpAnyLast P md ops Q S ds fuel l a' w) (ha:Act.put x N v=a':=by (simp only[Act.put,zL,i64_w,i32_w];rfl)):wpAnyLast P md ops Q S ds fuel l (Act.put x N v) w:=norm_ ha h
theorem znq (h:wpAnyLast P md ops Q S ds fuel l a' w) (ha:a=a':=by (simp only[putAll,Act.put,zL];rfl)):wpAnyLast P md ops Q S ds fuel l a w:=norm_ ha h
theorem zsk {w1:World} {K:Act→World→Prop} (h:K a w1) (hw:Region.wanted oi (yielded ops a.tmps)=true:=by rfl) (hN:oi.dst=none:=by exact rfl) (hrun:(execOp a.eval oi).run P w=.ok .skip w1:=by (go_simp;rfl)):if Region.wanted oi (yielded ops a.tmps)=true then Oper.wp P oi a w K Q else K (a.put none undef) w:=skip_ hw hN hrun h
end
section
theorem zH{α:Type}{a b:α}{p q:Prop}(e:a=b) (H:q) (h:a=b→q→p:=by intro e_ H;first|(rw[e_];with_reducible exact H)|(have H2_:=(Option.bind_some _ _).symm.trans H;rw[e_];with_reducible exact H2_)|(have H2_:=(Option.bind_some _ _).symm.trans H;with_reducible exact H2_)|with_reducible exact H|(rw[e_];exact H)|exact H):p:=h e H
theorem zD{p q:Prop}(a:p:=by first|rfl|(simp;done)|(simp[*];done)) (b:q:=by repeat (first|exact Drawn0.refl _|apply Drawn0.step)):p∧q:=⟨a,b⟩
theorem zP2{A B:Type}{a a':A}{b b':B}(h:some (a,b)=some (a',b')):a=a'∧b=b':=by simpa only[Option.some.injEq,Prod.mk.injEq] using h
theorem zP3{A B C:Type}{a a':A}{b b':B}{c c':C}(h:some (a,b,c)=some (a',b',c')):a=a'∧b=b'∧c=c':=by simpa only[Option.some.injEq,Prod.mk.injEq] using h
theorem zP4{A B C D:Type}{a a':A}{b b':B}{c c':C}{d d':D}(h:some (a,b,c,d)=some (a',b',c',d')):a=a'∧b=b'∧c=c'∧d=d':=by simpa only[Option.some.injEq,Prod.mk.injEq] using h
theorem z3c{w:World}{g t:Nat}{cs:Array Value}{a b c:Value}(h:Aside0 (w.heap[g]? =some (.cells cs t (0,0)))) (h0:cs[0]? =some a:=by rfl) (h1:cs[1]? =some b:=by rfl) (h2:cs[2]? =some c:=by rfl):w.cell? ⟨g,0,none⟩=some a∧w.cell? ⟨g,1,none⟩=some b∧w.cell? ⟨g,2,none⟩=some c:=⟨(blk_cell h.out 0).trans h0,(blk_cell h.out 1).trans h1,(blk_cell h.out 2).trans h2⟩
theorem z3k{w:World}{g t:Nat}{cs:Array Value}{a b c:Value}(h:Aside0 (w.heap[g]? =some (.cells cs t (0,0)))){R:Prop}(r:R) (h0:cs[0]? =some a:=by rfl) (h1:cs[1]? =some b:=by rfl) (h2:cs[2]? =some c:=by rfl):w.cell? ⟨g,0,none⟩=some a∧w.cell? ⟨g,1,none⟩=some b∧w.cell? ⟨g,2,none⟩=some c∧R:=⟨(blk_cell h.out 0).trans h0,(blk_cell h.out 1).trans h1,(blk_cell h.out 2).trans h2,r⟩
end
end Go.Proofs.YtjgcocfnilhggaaDoor.Q
namespace Go.Proofs.YtjgcocfnilhggaaDoor.Q
open RowKit YtjgcocfnilhggaaDoorW.PrintWords YtjgcocfnilhggaaDoorW.PrintLast YtjgcocfnilhggaaDoorW.PrintMore
attribute [local go_sem] max2_int min2_int max_two min_two max_three min_three max_four min_four
def errW:Option Int->Value
 |none=> .nilIface
 |some c=> .iface 0 (.int .i64 c)
theorem errW_none:errW none= .nilIface:=rfl
theorem errW_some(c:Int):errW (some c)= .iface 0 (.int .i64 c):=rfl
theorem info3:(Tryd.prog.info? 3).map (fun i=>(i.zero,i.size,i.bytes))=some (some (.int .i64 0),1,8):=by kernel_rfl
theorem info5:(Tryd.prog.info? 5).map (fun i=>(i.zero,i.size,i.bytes))=some (some (.int .u8 0),1,1):=by kernel_rfl
theorem info22:(Tryd.prog.info? 22).map (fun i=>(i.zero,i.size,i.bytes))=some (some (.slice none 0 0),1,24):=by kernel_rfl
def rd_L3(xs:List (List Int))(i:Int):(List Int):=xs.getD i.toNat ([]:List Int)
theorem at_L3{w:World}{A:Option Addr}{n:Nat}{xs:List (List Int)}(h:Kd.C (Kd.slice 5 (Kd.int .u8)) w A n xs)(i:Int)(h0:0<=i)(h1:i<n): ∃ad A0 c0,A=some ad/\w.cell? (ad.add i.toNat)=some (.slice A0 (rd_L3 xs i).length c0)/\(rd_L3 xs i).length<=c0/\(Kd.int .u8).C w A0 (rd_L3 xs i).length (rd_L3 xs i):=by
 obtain⟨ad,c,e,_,hK,D⟩:=Kd.C_get h ([]:List Int) i h0 h1;have hc: ∀j u,c[j]? =some u->w.cell? (ad.add (i.toNat*1+j))=some u:=D;obtain⟨A0,c0,rfl,l0,g0⟩:=hK;exact⟨ad,A0,c0,e,by have hq:=hc 0 _ rfl;rwa [Nat.mul_one,Nat.add_zero]at hq,l0,g0⟩
structure S24 where
 f0:Int
 f1:Int
 f2:(List Int)
def k24:Kd S24:=Kd.iso (Kd.pair (Kd.int .i64) (Kd.pair (Kd.int .i64) (Kd.slice 5 (Kd.int .u8)))) (fun x:S24=>(x.f0,x.f1,x.f2))
theorem k24_open{w:World}{x:S24}{cs:List Value}(h:k24.K w x cs): ∃A2 c2,cs= [.int .i64 x.f0,.int .i64 x.f1,.slice A2 x.f2.length c2]/\x.f2.length<=c2/\(Kd.int .u8).C w A2 x.f2.length x.f2:=by
 obtain⟨_,_,rfl,rfl,⟨_,_,rfl,rfl,⟨A2,c2,rfl,l2,g2⟩⟩⟩:=h;exact⟨A2,c2,rfl,l2,g2⟩
theorem tab_below{g:Nat}{tab:List Nat}{w W:World}(h:TabAt g tab w)(hb:Below w.heap.size w W):TabAt g tab W:=fun j hj=>pw_cell_below hb (h j hj)
def matrix_side.f(a0:Int):Option (Bool):=if a0>=0 then(some (decide (a0<=64)))else(some false)
theorem matrix_side.calls(a0:Int)(r:Bool)(w:World)(h:matrix_side.f a0=some r):
 Calls Tryd.prog 64 #[.int .i64 a0] w fun e w'=>e= .returned (.bool r)/\Drawn0 w w':=by
 have H:(if a0>=0 then(some (decide (a0<=64)))else(some false))=some r:=h;clear h;by_cases c2:a0>=0
 ·rw[if_pos c2]at H
  have c2b0:decide (0<=a0)=true:=decide_eq_true c2;clear c2;obtain rfl:=Option.some.inj H
  go_enter Tryd.func64,Tryd.ntmps64
  go_wp2
  go_ret
  exact zD
 ·rw[if_neg c2]at H
  have c2b0:decide (0<=a0)=false:=decide_eq_false c2;clear c2;obtain rfl:=Option.some.inj H
  go_enter Tryd.func64,Tryd.ntmps64
  go_wp2
  go_ret
  exact zD
def matrix_Right.f(D:Int)(G:Int)(I:List Int):Option (Bool):=(matrix_side.f D).bind fun J=>(if J=true then((matrix_side.f G).bind fun L=>(if L=true then(some ((I.length:Int)==(wrap64 (D*G))))else(some false)))else(some false))
theorem matrix_Right.calls(D:Int)(G:Int)(L:Option Addr)(O:Nat)(I:List Int)(r:Bool)(w:World)(aa:Kd.C (Kd.int .u8) w L I.length I)(Z:I.length<=O)(h:matrix_Right.f D G I=some r):
 Calls Tryd.prog 56 #[.agg #[.int .i64 D,.int .i64 G,.slice L I.length O]] w fun e w'=>e= .returned (.bool r)/\Below w.heap.size w w':=by
 have a0:=Tryd.underlying24;have az:=aK aa;have ay:=aK Z;clear aa Z;have HB:=aK (Below.refl w.heap.size w);have H:((matrix_side.f D).bind fun ab=>(if ab=true then((matrix_side.f G).bind fun ac=>(if ac=true then(some ((I.length:Int)==(wrap64 (D*G))))else(some false)))else(some false)))=some r:=h;clear h;obtain⟨ab,A2,H⟩:=bindO H
 (try dsimp only at H)
 by_cases c3:ab=true
 ·subst c3;rw[if_pos rfl]at H
  obtain⟨ac,A4,H⟩:=bindO H
  (try dsimp only at H)
  by_cases c5:ac=true
  ·subst c5;rw[if_pos rfl]at H
   obtain rfl:=Option.some.inj H
   go_enter Tryd.func56,Tryd.ntmps56
   go_wp2_with (first|((with_reducible refine gD 1 rfl ?_);(try(refine gate_guard ze ?_;dsimp only));refine bE 1 #[.int .i64 D,.int .i64 G,.slice L I.length O] 24 ?_;intro Y hg w6 hbox hb;have J:=aK (hbox);have X:=hbS HB hg;have U:=hbS HB hg;replace HB:=hbB HB hb;clear hb hbox hg;obtain⟨ak,al,am,aq,ar,au⟩:=cell3 J)|((with_reducible refine gC 64 rfl ?_);refine cG (some 5) Tryd.func64 #[.int .i64 D] ?_;(with_reducible refine(matrix_side.calls D true _ A2.out).mono ?_);rintro e w' ⟨rfl,⟨nd,rfl⟩⟩;refine⟨_,rfl,?_⟩)|(go_at_call 64;(with_reducible refine(matrix_side.calls G true _ A4.out).mono ?_);rintro e w' ⟨rfl,⟨nd,rfl⟩⟩))
   go_ret
   exact⟨rfE,hbA HB.out⟩
  ·replace c5:=Bool.eq_false_iff.mpr c5;subst c5;rw[if_neg nofT]at H
   obtain rfl:=Option.some.inj H
   go_enter Tryd.func56,Tryd.ntmps56
   go_wp2_with (first|((with_reducible refine gD 1 rfl ?_);(try(refine gate_guard ze ?_;dsimp only));refine bE 1 #[.int .i64 D,.int .i64 G,.slice L I.length O] 24 ?_;intro Y hg w8 hbox hb;have J:=aK (hbox);have X:=hbS HB hg;have U:=hbS HB hg;replace HB:=hbB HB hb;clear hb hbox hg;obtain⟨an,ao,ap,av,aw,ax⟩:=cell3 J)|((with_reducible refine gC 64 rfl ?_);refine cG (some 5) Tryd.func64 #[.int .i64 D] ?_;(with_reducible refine(matrix_side.calls D true _ A2.out).mono ?_);rintro e w' ⟨rfl,⟨nd,rfl⟩⟩;refine⟨_,rfl,?_⟩)|(go_at_call 64;(with_reducible refine(matrix_side.calls G false _ A4.out).mono ?_);rintro e w' ⟨rfl,⟨nd,rfl⟩⟩))
   go_ret
   exact⟨rfE,hbA HB.out⟩
 ·replace c3:=Bool.eq_false_iff.mpr c3;subst c3;rw[if_neg nofT]at H
  obtain rfl:=Option.some.inj H
  go_enter Tryd.func56,Tryd.ntmps56
  go_wp2_with (first|((with_reducible refine gD 1 rfl ?_);(try(refine gate_guard ze ?_;dsimp only));refine bE 1 #[.int .i64 D,.int .i64 G,.slice L I.length O] 24 ?_;intro Y hg a1 hbox hb;have J:=aK (hbox);have X:=hbS HB hg;have U:=hbS HB hg;replace HB:=hbB HB hb;clear hb hbox hg;obtain⟨ae,af,ag,ah,ai,aj⟩:=cell3 J)|((with_reducible refine gC 64 rfl ?_);refine cG (some 5) Tryd.func64 #[.int .i64 D] ?_;(with_reducible refine(matrix_side.calls D false _ A2.out).mono ?_);rintro e w' ⟨rfl,⟨nd,rfl⟩⟩;refine⟨_,rfl,?_⟩))
  go_ret
  exact⟨rfE,hbA HB.out⟩
def u64B(x:Int):Bool:=decide (0<=x)&&decide (x<18446744073709551616)
def bits_TrailingZeros64.f(a0:Int):Option Int:=if u64B a0=true then some (Lib.ctz 64 a0.toNat:Nat)else none
theorem tz64_zero(w:World):Calls Tryd.prog 67 #[.int .u64 0] w fun e w'=>e= .returned (.int .i64 64)/\w'=w:=by
 go_enter Tryd.func67,Tryd.ntmps67
 go_wp2
 go_ret
 exact⟨rfl,rfl⟩
theorem tz64_core(x k idx:Nat)(w:World)(D:((x:Int)==0)=false)
 (key:IntKind.u64.wrap (bits BinOp.and IntKind.u64 (x:Int) (IntKind.u64.wrap (-(x:Int)))*285870213051353865) / 288230376151711744=(idx:Int))
 (hi:idx<64) (hk:k<64) (hcell:w.cell? ⟨0,idx,none⟩=some (.int .u8 k)):
 Calls Tryd.prog 67 #[.int .u64 x] w fun e w'=>e= .returned (.int .i64 k)/\w'=w:=by
 go_enter Tryd.func67,Tryd.ntmps67
 go_wp2_with (simp only[key])
 go_ret
 exact⟨rfl,rfl⟩
theorem bits_TrailingZeros64.calls(a0:Int)(r:Int)(w:World)(h:bits_TrailingZeros64.f a0=some r)(hT:TabAt 0 Lib.deBruijn64tab w):
 Calls Tryd.prog 67 #[.int .u64 a0] w fun e w'=>e= .returned (.int .i64 r)/\Drawn0 w w':=by
 unfold bits_TrailingZeros64.f at h;by_cases hb:u64B a0=true
 ·rw[if_pos hb]at h
  unfold u64B at hb;simp only[Bool.and_eq_true,decide_eq_true_eq]at hb;obtain⟨h0,h1⟩:=hb;obtain⟨x,rfl⟩:=Int.eq_ofNat_of_zero_le h0;obtain rfl:=Option.some.inj h;have hx:x<18446744073709551616:=by omega
  rw[Int.toNat_natCast];by_cases D:x=0
  ·subst D;refine(tz64_zero w).mono ?_;rintro e w' ⟨rfl,rfl⟩;exact⟨rfl,Drawn0.refl _⟩
  ·obtain⟨hlow,hk⟩:=Lib.lowest_bit 64 x D hx;obtain⟨hi,htab⟩:=Lib.deBruijn64_at _ hk;have hcell:=hT _ hi;rw[htab]at hcell
   refine(tz64_core x _ _ w zk (tz64_key x _ hx D hlow) hi hk hcell).mono ?_;rintro e w' ⟨rfl,rfl⟩;exact⟨rfl,Drawn0.refl _⟩
 ·rw[if_neg hb]at h
  cases h
def subset_List.l0:Nat->Int->List Int->Option (List Int)
 |0,_,_=>none
 |k+1,x0,x3=>if x0=0 then(some x3)else((bits_TrailingZeros64.f x0).bind fun D=>(if x3.length<17592186044416 then(subset_List.l0 k (Go.bits .and .u64 x0 (IntKind.u64.wrap (x0-1))) (x3++ [D]))else(none)))
def subset_List.f(k:Nat)(a0:Int):Option (List Int):=subset_List.l0 k a0 ([]:List Int)
theorem subset_List.mono_l: ∀k,(∀y0 y1,LeO (subset_List.l0 k y0 y1) (subset_List.l0 (k+1) y0 y1))
 |0=>fun _ _ r h=>by simp[subset_List.l0]at h
 |k+1=>by
  have D:=subset_List.mono_l k
  ·intro y0 y1;unfold subset_List.l0
   with_reducible repeat' first|exact D _ _|exact LeO.refl _|exact LeO.none _|refine LeO.ite ?_ ?_|refine LeO.bind ?_ (fun _=>?_)
theorem subset_List.mono: ∀a0 k,LeO (subset_List.f k a0) (subset_List.f (k+1) a0):=by
 intro a0 k;have D:=subset_List.mono_l k;unfold subset_List.f
 with_reducible repeat' first|exact D _ _|exact LeO.refl _|exact LeO.none _|refine LeO.ite ?_ ?_|refine LeO.bind ?_ (fun _=>?_)
theorem subset_List.calls(k:Nat)(a0:Int)(r:List Int)(w:World)(h:subset_List.f k a0=some r)(hT:TabAt 0 Lib.deBruijn64tab w):
 Calls Tryd.prog 35 #[.int .u64 a0] w fun e w'=> ∃v0_:Value,e= .returned (v0_)/\Kd.R (Kd.int .i64) 3 w' w.heap.size (fun _=>True) v0_ r/\Below w.heap.size w w':=by
 have HT:=aK hT;clear hT;have HB:=aK (Below.refl w.heap.size w);have H:(subset_List.l0 k a0 ([]:List Int))=some r:=h;clear h;have H':=aK H;clear H
 go_enter Tryd.func35,Tryd.ntmps35
 go_wp2
 go_loopg [0,3] k (fun kq v0 v3 w'=> ∃(D:Int) (I:List Int),v0= .int .u64 D/\Aside0 (subset_List.l0 kq D I=some r)/\Aside0 (kq<=k)/\Aside0 (Kd.R (Kd.int .i64) 3 w' w.heap.size (fun _=>True) v3 I)/\Aside0 (Below w.heap.size w w'))
 case atStart=>exact⟨(a0),(([]:List Int)),rsE,H',⟨Nat.le_refl _⟩,⟨nilE⟩,⟨hbA HB.out⟩⟩
 case round=>
  clear H';obtain⟨D,I,rfl,HA,X,HO_3,HB⟩:=hrel
  cases gk with
  |zero=>exact absurd HA.out (by simp[subset_List.l0])
  |succ k1=>
   have H:=HA.out;clear HA;simp only[subset_List.l0]at H;by_cases c2:D=0
   ·rw[if_pos c2]at H
    have c2b0:(D==0)=true:=beq_iff_eq.mpr c2;have c2b1:(D !=0)=false:=bne_eq_false_iff_eq.mpr c2;clear c2;obtain rfl:=Option.some.inj H;go_wp2
    go_ret
    exact⟨_,rfE,by(with_reducible repeat(first|apply Kd.R_alloc|apply Kd.R_drewN|apply Kd.R_drew));exact HO_3.out,hbA HB.out⟩
   rw[if_neg c2]at H
   have c2b0:(D==0)=false:=beq_eq_false_iff_ne.mpr c2;have c2b1:(D !=0)=true:=bne_iff_ne.mpr c2;obtain⟨J,A3,H⟩:=bindO H
   (try dsimp only at H)
   by_cases c4:I.length<17592186044416
   case neg=>rw[if_neg c4]at H;exact absurd H zd
   rw[if_pos c4]at H
   have Y:=aK c4;clear c4;obtain⟨L,G⟩: ∃y_:List Int,y_=(I++ [J]):=⟨_,rfl⟩
   replace H:(subset_List.l0 k1 (Go.bits .and .u64 D (IntKind.u64.wrap (D-1))) L)=some r:=zH G H
   have U:=aK G;clear G;have H':=aK H;clear H
   go_wp2_with (first|((with_reducible refine gC 67 rfl ?_);refine cG (some 12) Tryd.func67 #[.int .u64 D] ?_;(with_reducible refine(bits_TrailingZeros64.calls D J _ A3.out (tab_below HT.out zj)).mono ?_);rintro e w' ⟨rfl,⟨nd,rfl⟩⟩;refine⟨_,rfl,?_⟩)|((with_reducible refine gate_builtin (b:= .append) (xs:= #[.tmp 10,.tmp 13]) rfl ?_);at_builtin;refine Kd.R_append (Kd.int .i64) (w0:=w) w.heap.size rfl (.tmp 10) (.tmp 13) 56 3 (.int .i64 0) 8 rfl Tryd.underlying56 info3 rfl zb za u3 I J [.int .i64 J] (fun _=>True) (fun _=>False) rfl rfl ?aP (fun _ hk=>hk.elim) ?aF ?aO ?aB ?aS ?aL ?_;(case aP=>exact rfl);(case aB=>exact(hbA HB.out));(case aF=>exact(fun _ _=>trivial));(case aO=>exact(kdA HO_3.out));(case aS=>exact(below_size (hbA HB.out)));(case aL=>have:=Y.out;omega);intro Z w5 ho hb hg hat;rw[<-U.out]at ho;have n0_:=aK (hb);have n1_:=aK (ho);clear HB;clear HO_3;have HB:=n0_;have O:=n1_;clear n0_ n1_;clear ho hb hg hat))
   go_roundg k1
   case measure=>have:=X.out;omega
   case rel=>exact⟨(Go.bits .and .u64 D (IntKind.u64.wrap (D-1))),(L),rsE,H',⟨by have:=X.out;omega⟩,⟨kdA O.out⟩,⟨hbA HB.out⟩⟩
def matrix_blank.f(a0:Int)(a1:Int):Option (Int×Int×List Int):=if 0<=(wrap64 (a0*a1))then(if(wrap64 (a0*a1):Int).toNat<=281474976710656 then(some (a0,a1,(List.replicate (wrap64 (a0*a1):Int).toNat 0)))else(none))else(none)
theorem matrix_blank.calls(a0:Int)(a1:Int)(r1:Int)(r2:Int)(r3:List Int)(w:World)(h:matrix_blank.f a0 a1=some (r1,r2,r3)):
 Calls Tryd.prog 65 #[.int .i64 a0,.int .i64 a1] w fun e w'=> ∃v2_:Value,e= .returned (.agg #[.int .i64 r1,.int .i64 r2,v2_])/\Kd.R (Kd.int .u8) 5 w' w.heap.size (fun _=>True) v2_ r3/\Below w.heap.size w w':=by
 have al:=Tryd.underlying24;have HB:=aK (Below.refl w.heap.size w);have H:(if 0<=(wrap64 (a0*a1))then(if(wrap64 (a0*a1):Int).toNat<=281474976710656 then(some (a0,a1,(List.replicate (wrap64 (a0*a1):Int).toNat 0)))else(none))else(none))=some (r1,r2,r3):=h;clear h;obtain⟨I,L⟩: ∃j_:Int,(wrap64 (a0*a1))=j_:=⟨_,rfl⟩
 replace H:(if 0<=(I)then(if(I:Int).toNat<=281474976710656 then(some (a0,a1,(List.replicate (I:Int).toNat 0)))else(none))else(none))=some (r1,r2,r3):=by first|(rw[L]at H;exact H)|(simp only[L]at H⊢;exact H)
 have hji3w:(IntKind.i64.wrap (a0*a1))=I:=(i64_w _).trans L;by_cases c4:0<=(I)
 ·rw[if_pos c4]at H
  have c4b0:=eq_true c4;have c4b1:decide (0<=(I))=true:=decide_eq_true c4;clear c4;by_cases c5:(I:Int).toNat<=281474976710656
  ·rw[if_pos c5]at H
   have c5b0:=eq_true c5;have c5b1:decide ((I:Int).toNat<=281474976710656)=true:=decide_eq_true c5;clear c5;obtain⟨Y,G⟩: ∃y_:List Int,y_=(List.replicate (I:Int).toNat 0):=⟨_,rfl⟩
   replace H:(some (a0,a1,Y))=some (r1,r2,r3):=zH G H
   have U:=aK G;clear G;obtain⟨rfl,rfl,rfl⟩:=zP3 H
   go_enter Tryd.func65,Tryd.ntmps65
   go_wp2_with (first|((with_reducible refine gD 4 rfl ?_);refine bE 4 #[.int .i64 0,.int .i64 0,.slice none 0 0] 24 ?_;intro J hg w6 hbox hb;have D:=aK (hbox);have aj:=hbS HB hg;have ai:=hbS HB hg;replace HB:=hbB HB hb;clear hb hbox hg)|((with_reducible refine gate_dst (N:=10) rfl ?_);refine Kd.R_make (Kd.int .u8) _ 5 rfl (N:=10) rfl 22 _ _ rfl I rfl rfl Tryd.underlying22 (.int .u8 0) 1 info5 rfl zb za 0 (ok:=fun _=>True) (okp:=fun _=>True) rfl (fun _ hk=>hk) trivial (of_decide_eq_true asE) (Nat.le_trans (Nat.mul_le_mul_right _ (of_decide_eq_true asE:I.toNat<=281474976710656)) za) (Below.refl _ _) (Nat.le_refl _) ?_;intro am w7 X hb hg_ hnew_;clear hg_ hnew_;(first|rw[<-U.out]at X|(simp only[Int.reduceToNat]at X;rw[<-U.out]at X));have O:=aK (Kd.R_lower X (below_size (hbA HB.out)));replace D:=bkB D hb;replace HB:=hbB HB hb;clear hb X;obtain⟨Z,aa,ak⟩:=Kd.R_slice O.out;subst ak;obtain⟨ab,ac,ae,af,ag,ah⟩:=cell3 D))
   refine bodyPost_ret (results_cell_row rfl _ _ J 24 #[.int .i64 a0,.int .i64 a1,.slice Z Y.length aa] (0,0) _ rfl (by refine bkR ?_;refine blk_put (cs:= #[.int .i64 a0,.int .i64 a1,.slice none 0 0]) ?_ 2 _ rfl;refine bkR ?_;refine blk_put (cs:= #[.int .i64 a0,.int .i64 0,.slice none 0 0]) ?_ 1 _ rfl;refine bkR ?_;refine blk_put (cs:= #[.int .i64 0,.int .i64 0,.slice none 0 0]) ?_ 0 _ rfl;refine bkR ?_;exact D.out) Tryd.underlying24 rfl zc) rfl ?_;exact⟨_,by first|rfl|(simp[errW_none,errW_some]<;>rfl)|(simp only[<-L];first|rfl|(simp[errW_none,errW_some]<;>rfl))|(simp[*,errW_none,errW_some]<;>rfl),by(with_reducible repeat(first|apply Kd.R_alloc|apply Kd.R_drewN|apply Kd.R_drew));exact Kd.R_mono (Kd.R_far (p:=⟨J,2,none⟩) (Kd.R_far (p:=⟨J,1,none⟩) (Kd.R_far (p:=⟨J,0,none⟩) (Kd.R_types O.out D.out zb) (fun _ hk=>hk.2) (.int .i64 a0)) (fun _ hk=>hk.2) (.int .i64 a1)) (fun _ hk=>hk.2) (.slice Z Y.length aa)) (fun _ hk=>trivial),hbA HB.out⟩
  ·rw[if_neg c5]at H
   exact absurd H zd
 ·rw[if_neg c4]at H
  exact absurd H zd
def field_double.f(a0:Int):Option (Int):=if(Go.bits .and .u8 a0 128)=0 then(some ((a0*2) % 256))else(some (Go.bits .xor .u8 ((a0*2) % 256) 29))
theorem field_double.calls(a0:Int)(r:Int)(w:World)(h:field_double.f a0=some r):
 Calls Tryd.prog 120 #[.int .u8 a0] w fun e w'=>e= .returned (.int .u8 r)/\Drawn0 w w':=by
 have H:(if(Go.bits .and .u8 a0 128)=0 then(some ((a0*2) % 256))else(some (Go.bits .xor .u8 ((a0*2) % 256) 29)))=some r:=h;clear h;by_cases c2:(Go.bits .and .u8 a0 128)=0
 ·rw[if_pos c2]at H
  have c2b0:((Go.bits .and .u8 a0 128)==0)=true:=beq_iff_eq.mpr c2;have c2b1:((Go.bits .and .u8 a0 128)!=0)=false:=bne_eq_false_iff_eq.mpr c2;clear c2;obtain rfl:=Option.some.inj H
  go_enter Tryd.func120,Tryd.ntmps120
  go_wp2
  go_ret
  exact zD
 ·rw[if_neg c2]at H
  have c2b0:((Go.bits .and .u8 a0 128)==0)=false:=beq_eq_false_iff_ne.mpr c2;have c2b1:((Go.bits .and .u8 a0 128)!=0)=true:=bne_iff_ne.mpr c2;obtain rfl:=Option.some.inj H
  go_enter Tryd.func120,Tryd.ntmps120
  go_wp2
  go_ret
  exact zD
def field_bounded.f(a0:Int):Option (Int):=some (Int.tmod (wrap64 ((Int.tmod a0 255)+255)) 255)
theorem field_bounded.calls(a0:Int)(r:Int)(w:World)(h:field_bounded.f a0=some r):
 Calls Tryd.prog 122 #[.int .i64 a0] w fun e w'=>e= .returned (.int .i64 r)/\Drawn0 w w':=by
 have H:(some (Int.tmod (wrap64 ((Int.tmod a0 255)+255)) 255))=some r:=h;clear h;obtain rfl:=Option.some.inj H
 go_enter Tryd.func122,Tryd.ntmps122
 go_wp2
 go_ret
 exact zD
def field_build.dbl(a:Int):Int:=(field_double.f a).getD 0
def field_build.st:Nat->List Int×List Int×Int
 |0=>(List.replicate 510 0,List.replicate 256 0,1)
 |n+1=>let s:=field_build.st n;((s.1.set n s.2.2).set (n+255) s.2.2,s.2.1.set s.2.2.toNat n,field_build.dbl s.2.2)
def field_build.cells(e l:List Int):Array Value:=(nums .u8 e++nums .i64 l).toArray
def field_build.T:Array Value:=field_build.cells (field_build.st 255).1 (field_build.st 255).2.1
theorem field_build.st_length(n:Nat):(field_build.st n).1.length=510/\(field_build.st n).2.1.length=256:=by
 induction n with
 |zero=>exact⟨List.length_replicate,List.length_replicate⟩
 |succ n ih=>
  unfold field_build.st;simp only[List.length_set];exact ih
def field_build.elsB:Nat->Int->Bool
 |0,_=>true
 |n+1,a=>decide (0<=a)&&decide (a<256)&&field_build.elsB n (field_build.dbl a)
theorem field_build.els_ok:field_build.elsB 256 1=true:=by decide+kernel
theorem field_build.elsB_at: ∀(n:Nat) (k:Nat),n<k->field_build.elsB (k-n) (field_build.st n).2.2=true->0<=(field_build.st n).2.2/\(field_build.st n).2.2<256/\field_build.elsB (k-(n+1)) (field_build.st (n+1)).2.2=true:=by
 intro n k hk h;obtain⟨j,hj⟩: ∃j,k-n=j+1:=⟨k-n-1,by omega⟩
 rw[hj]at h
 simp only[field_build.elsB,Bool.and_eq_true,decide_eq_true_eq]at h;refine⟨h.1.1,h.1.2,?_⟩;rw[show k-(n+1)=j from by omega];exact h.2
theorem field_build.elsB_all: ∀n,n<=255->field_build.elsB (256-n) (field_build.st n).2.2=true
 |0,_=>field_build.els_ok
 |n+1,h=>(field_build.elsB_at n 256 za (field_build.elsB_all n za)).2.2
theorem field_build.el_range(n:Nat)(h:n<=255):0<=(field_build.st n).2.2/\(field_build.st n).2.2<256:=
 ⟨(field_build.elsB_at n 256 za (field_build.elsB_all n h)).1,(field_build.elsB_at n 256 za (field_build.elsB_all n h)).2.1⟩
theorem field_build.cells_size(e l:List Int):(field_build.cells e l).size=e.length+l.length:=by simp[field_build.cells,nums]
theorem field_build.cell_exp{e l:List Int}{j:Nat}(h:j<e.length):(field_build.cells e l)[j]? =some (.int .u8 (e.getD j 0)):=by
 simp[field_build.cells,nums,List.getElem?_append_left,h,List.getD_eq_getElem?_getD]
theorem field_build.cell_log{e l:List Int}{j:Nat}(h:j<l.length):(field_build.cells e l)[e.length+j]? =some (.int .i64 (l.getD j 0)):=by
 simp[field_build.cells,nums,h,List.getD_eq_getElem?_getD]
theorem field_build.set_exp{e l:List Int}{j:Nat}(h:j<e.length)(x:Int):(field_build.cells e l).setIfInBounds j (.int .u8 x)=field_build.cells (e.set j x) l:=by
 simp only[field_build.cells,nums,List.setIfInBounds_toArray];rw[List.set_append_left _ _ zae,List.map_set]
theorem field_build.set_log{e l:List Int}{j:Nat}(x:Int):(field_build.cells e l).setIfInBounds (e.length+j) (.int .i64 x)=field_build.cells e (l.set j x):=by
 simp only[field_build.cells,nums,List.setIfInBounds_toArray];rw[List.set_append_right _ _ zd,List.map_set];simp
theorem field_build.one(e l:List Int):(field_build.cells e l).all (·.oneCell')=true:=by
 rw[Array.all_eq_true_iff_forall_mem];intro x hx;simp only[field_build.cells,nums,List.mem_toArray,List.mem_append,List.mem_map]at hx;rcases hx with⟨y,_,rfl⟩|⟨y,_,rfl⟩<;>rfl
def field_build.Z:Array Value:=field_build.cells (List.replicate 510 0) (List.replicate 256 0)
theorem field_build.zero(w:World):(zeroValue 156).run Tryd.prog w= .ok (.agg field_build.Z) w:=by kernel_rfl
theorem field_build.info:(Tryd.prog.info? 156).map (·.size)=some 766:=by kernel_rfl
theorem field_build.T_size:field_build.T.size=766:=by
 obtain⟨h1,h2⟩:=field_build.st_length 255;unfold field_build.T;rw[field_build.cells_size,h1,h2]
theorem field_build.infoT:(Tryd.prog.info? 156).map (·.size)=some field_build.T.size:=by rw[field_build.T_size];exact field_build.info
theorem field_build.oneT:field_build.T.all (·.oneCell')=true:=field_build.one _ _
theorem field_build.sizeZ:field_build.Z.size=field_build.T.size:=by
 unfold field_build.Z;rw[field_build.T_size,field_build.cells_size,List.length_replicate,List.length_replicate]
theorem field_build.dbl_call{a:Int} :field_double.f a=some (field_build.dbl a):=by
 unfold field_build.dbl field_double.f
 split<;>rfl
theorem field_build.calls(w:World):Calls Tryd.prog 118 #[] w fun e w'=>e= .returned (.agg field_build.T)/\Below w.heap.size w w':=by
 have hz:=field_build.zero
 go_enter Tryd.func118,Tryd.ntmps118
 go_wp2_with fail
 go_loopw [2,4] (fun v2 v4 wr=> ∃n:Nat,n<=255/\v4= .int .i64 n/\v2= .int .u8 (field_build.st n).2.2/\Aside0 (wr.heap[w.heap.size+1]? =some (.cells (field_build.cells (field_build.st n).1 (field_build.st n).2.1) 156 (0,0)))/\Aside0 (wr.heap[w.heap.size]? =some (.cells field_build.Z 156 (0,0)))/\Aside0 (Below w.heap.size w wr)) (fun _ v _=>255-(intOf v).toNat)
 case atStart=>
  refine⟨0,by omega,rfl,rfl,⟨?_⟩,⟨?_⟩,⟨below_alloc (below_alloc (Below.refl _ _) _) _⟩⟩
  ·exact(heap_alloc2_new w _ _).trans rfl
  ·exact heap_alloc2_old w _ _
 case round=>
  obtain⟨n,hn,rfl,rfl,HT,HR,HB⟩:=hrel;obtain⟨l1,l2⟩:=field_build.st_length n;by_cases hlt:n<255
  ·obtain⟨r0,r1⟩:=field_build.el_range n hn;obtain⟨a,ha⟩: ∃a,a=(field_build.st n).2.2:=⟨_,rfl⟩
   obtain⟨e,he⟩: ∃e,e=(field_build.st n).1:=⟨_,rfl⟩
   obtain⟨l,hl⟩: ∃l,l=(field_build.st n).2.1:=⟨_,rfl⟩
   rw[<-he,<-hl]at HT
   rw[<-ha]at r0 r1⊢
   rw[<-he]at l1
   rw[<-hl]at l2
   have HA:=aK ha;have HE:=aK he;have HL:=aK hl;clear ha he hl;have G:=(blk_cell HT.out n).trans (field_build.cell_exp za);have I:=(blk_cell HT.out (n+255)).trans (field_build.cell_exp za);have J:wr.cell? ⟨w.heap.size+1,510+a.toNat,none⟩=some (.int .i64 (l.getD a.toNat 0)):=by
    rw[blk_cell HT.out,<-l1];exact field_build.cell_log za
   have L:=blk_frozen HT.out n;have O:=blk_frozen HT.out (n+255);have U:=blk_frozen HT.out (510+a.toNat);have q1:(n+255=510+a.toNat)=False:=by simp;omega
   have q2:(n=510+a.toNat)=False:=by simp;omega
   have q3:(510+a.toNat=n+255)=False:=by simp;omega
   have q4:(510+a.toNat=n)=False:=by simp;omega
   have L1:=aK l1;have L2:=aK l2;clear l1 l2
   go_wp2_with (go_at_call 120;refine(field_double.calls a (field_build.dbl a) _ field_build.dbl_call).mono ?_;rintro e' w' ⟨rfl,⟨nd,rfl⟩⟩)
   go_roundw
   case rel=>
    refine⟨n+1,by omega,by go_num,?_,⟨?_⟩,⟨?_⟩,⟨?_⟩⟩
    ·rw[HA.out];rfl
    ·have s1:=blk_set HT.out n (.int .u8 a);have s2:=blk_set s1 (n+255) (.int .u8 a);have s3:=blk_set s2 (510+a.toNat) (.int .i64 n);refine(blk_drewN s3 _).trans ?_;rw[field_build.set_exp (by rw[L1.out];omega),field_build.set_exp (by rw[List.length_set,L1.out];omega),<-L1.out];have s4:=field_build.set_log (e:=(e.set n a).set (n+255) a) (l:=l) (j:=a.toNat) (n:Int);simp only[List.length_set]at s4;rw[s4,HA.out,HE.out,HL.out];rfl
    ·exact blk_drewN (blk_far (blk_far (blk_far HR.out zd _) zd _) zd _) _
    ·exact pw_below_drewN (((HB.out.setCell zd _).setCell zd _).setCell zd _) _
   case measure=>simp[intOf];omega
  ·have hT:wr.heap[w.heap.size+1]? =some (.cells field_build.T 156 (0,0)):=by
    have h:=HT.out;rw[show n=255 from by omega]at h
    exact h
   have D:=aK hT;clear hT HT l1 l2;generalize(field_build.st n).2.2=a
   go_wp2_with (first|(with_reducible refine wpList_load_row rfl 156 (.tmp 1) rfl (w.heap.size+1) rfl 156 field_build.T (0,0) _ D.out Tryd.underlying156 rfl field_build.infoT ?_)|(with_reducible refine wpList_store_row rfl 156 (.tmp 0) (.tmp 23) rfl w.heap.size field_build.T rfl rfl 156 _ HR.out field_build.infoT field_build.sizeZ field_build.oneT ?_))
   exact bodyPost_ret (v:= .agg field_build.T) (results_cell_row rfl _ _ w.heap.size 156 field_build.T (0,0) _ rfl (setRow_heap _ _ _ _ _ _ HR.out) Tryd.underlying156 rfl field_build.infoT) rfl ⟨rfl,below_setRow HB.out (Nat.le_refl _) _⟩
def field_build.logB(l:List Int):Bool:=l.all fun x=>decide (0<=x)&&decide (x<255)
theorem field_build.log_ok:field_build.logB (field_build.st 255).2.1=true:=by decide+kernel
def field_build.exp(i:Nat):Int:=(field_build.st 255).1.getD i 0
def field_build.log(i:Nat):Int:=(field_build.st 255).2.1.getD i 0
theorem field_build.log_range{i:Nat}(h:i<256):0<=field_build.log i/\field_build.log i<255:=by
 have hl:=(field_build.st_length 255).2;have h1:=List.all_eq_true.1 field_build.log_ok ((field_build.st 255).2.1[i]' za) (List.getElem_mem _);unfold field_build.log;rw[List.getD_eq_getElem?_getD,List.getElem?_eq_getElem za];simpa using h1
theorem field_build.cellE{W:World}{g:Nat}(h:W.heap[g]? =some (.cells field_build.T 156 (0,0))){j:Nat}(hj:j<510):W.cell? ⟨g,j,none⟩=some (.int .u8 (field_build.exp j)):=by
 rw[blk_cell h];exact field_build.cell_exp (by rw[(field_build.st_length 255).1];exact hj)
theorem field_build.cellL{W:World}{g:Nat}(h:W.heap[g]? =some (.cells field_build.T 156 (0,0))){j:Nat}(hj:j<256):W.cell? ⟨g,510+j,none⟩=some (.int .i64 (field_build.log j)):=by
 rw[blk_cell h];have h1:=field_build.cell_log (e:=(field_build.st 255).1) (l:=(field_build.st 255).2.1) (j:=j) (by rw[(field_build.st_length 255).2];exact hj);rw[(field_build.st_length 255).1]at h1
 exact h1
def field_Pow.f(a n:Int):Option (Int×Int):=
 if n=0 then some (1,0)else if a=0 then(if n<0 then some (0,5)else some (0,0))
 else if 0<=a/\a<256 then(field_bounded.f n).bind fun b=>if 0<=b/\b<255 then some (field_build.exp ((field_build.log a.toNat*b) % 255).toNat,0)else none else none
theorem field_Pow.calls(a0 a1:Int)(r1 r2:Int)(w:World)(h:field_Pow.f a0 a1=some (r1,r2)):
 Calls Tryd.prog 117 #[.int .u8 a0,.int .i64 a1] w fun e w'=>e= .returned (.tuple #[.int .u8 r1,.int .i64 r2])/\Below w.heap.size w w':=by
 unfold field_Pow.f at h;by_cases h1:a1=0
 ·rw[if_pos h1]at h
  obtain⟨rfl,rfl⟩:=Prod.mk.inj (Option.some.inj h);have c1:(a1==0)=true:=beq_iff_eq.mpr h1;clear h1 h
  go_enter Tryd.func117,Tryd.ntmps117
  go_wp2
  go_ret2
  exact⟨rfl,Below.refl _ _⟩
 ·rw[if_neg h1]at h
  have c1:(a1==0)=false:=beq_eq_false_iff_ne.mpr h1;clear h1;by_cases h2:a0=0
  ·rw[if_pos h2]at h
   have c2:(a0==0)=true:=beq_iff_eq.mpr h2;clear h2;by_cases h3:a1<0
   ·rw[if_pos h3]at h
    obtain⟨rfl,rfl⟩:=Prod.mk.inj (Option.some.inj h);clear h
    go_enter Tryd.func117,Tryd.ntmps117
    go_wp2
    go_ret2
    exact⟨rfl,Below.refl _ _⟩
   ·rw[if_neg h3]at h
    obtain⟨rfl,rfl⟩:=Prod.mk.inj (Option.some.inj h);clear h
    go_enter Tryd.func117,Tryd.ntmps117
    go_wp2
    go_ret2
    exact⟨rfl,Below.refl _ _⟩
  ·rw[if_neg h2]at h
   have c2:(a0==0)=false:=beq_eq_false_iff_ne.mpr h2;clear h2;by_cases h3:0<=a0/\a0<256
   ·rw[if_pos h3]at h
    obtain⟨b,hb,h⟩:=Option.bind_eq_some_iff.mp h;by_cases h4:0<=b/\b<255
    ·rw[if_pos h4]at h
     obtain⟨h5,h6⟩:=Prod.mk.inj (Option.some.inj h);obtain⟨I,J⟩:=h3;obtain⟨b0,b1⟩:=h4;have HBd:=aK hb;have H5:=aK h5;subst h6;clear hb h h5;obtain⟨x0,x1⟩:=field_build.log_range (i:=a0.toNat) za;have hlog: ∀W:World,∀g,W.heap[g]? =some (.cells field_build.T 156 (0,0))->W.cell? ⟨g,510+a0.toNat,none⟩=some (.int .i64 (field_build.log a0.toNat)):=fun W g hW=>field_build.cellL hW za;have hexp: ∀W:World,∀g,W.heap[g]? =some (.cells field_build.T 156 (0,0))->W.cell? ⟨g,((field_build.log a0.toNat*b) % 255).toNat,none⟩=some (.int .u8 (field_build.exp ((field_build.log a0.toNat*b) % 255).toNat)):=fun W g hW=>field_build.cellE hW za;have HLG:=aK hlog;have HEX:=aK hexp;clear hlog hexp;generalize field_build.log a0.toNat=x at*;have m0:0<=x*b:=Int.mul_nonneg x0 b0;have m1:x*b<=254*254:=Int.mul_le_mul za za b0 za;have e1:IntKind.i64.wrap (x*b)=x*b:=by rw[i64_w];unfold wrap64;omega
     obtain⟨q,hq⟩: ∃q:Int,q=x*b % 255:=⟨_,rfl⟩
     have e2:Int.tmod (x*b) 255=q:=by rw[hq];exact Int.tmod_eq_emod_of_nonneg m0
     have q0:0<=q:=by omega
     have q1:q<255:=by omega
     have e3:IntKind.i64.wrap q=q:=by rw[i64_w];unfold wrap64;omega
     rw[<-hq]at HEX H5
     clear hq m0 m1;have hz:=field_build.zero
     go_enter Tryd.func117,Tryd.ntmps117
     go_wp2_with (first|(go_at_call 118;refine(field_build.calls _).mono ?_;rintro e w1 ⟨rfl,D⟩;have G:=aK D;clear D)|(with_reducible refine wpList_store_row rfl 156 (.tmp 6) (.tmp 20) rfl w1.heap.size field_build.T rfl rfl 156 _ (blk_new _ _) field_build.infoT field_build.sizeZ field_build.oneT ?_;rw[World.setRow_alloc_new];have L:=HLG.out _ _ (blk_new w1 (.cells field_build.T 156));have O:=HEX.out _ _ (blk_new w1 (.cells field_build.T 156))))
     simp only[Act.put,List.setIfInBounds_toArray,List.set_cons_succ,List.set_cons_zero]
     go_quiet ((go_at_call 122;exact Calls.quiet_of ((field_bounded.calls a1 b _ HBd.out).mono (fun _ _ h=>⟨h.1,h.2.out⟩))))
     go_wp2
     go_ret2
     exact⟨by rw[<-H5.out];rfl,by repeat(first|exact G.out|apply pw_below_drewN|apply below_alloc)⟩
    ·rw[if_neg h4]at h
     cases h
   ·rw[if_neg h3]at h
    cases h
def field_Inv.f(a0:Int):Option (Int×Int):=(field_Pow.f a0 (-1)).bind fun D=>(some (D.1,D.2))
theorem field_Inv.calls(a0:Int)(r1:Int)(r2:Int)(w:World)(h:field_Inv.f a0=some (r1,r2)):
 Calls Tryd.prog 108 #[.int .u8 a0] w fun e w'=>e= .returned (.tuple #[.int .u8 r1,.int .i64 r2])/\Below w.heap.size w w':=by
 have HB:=aK (Below.refl w.heap.size w);have H:((field_Pow.f a0 (-1)).bind fun D=>(some (D.1,D.2)))=some (r1,r2):=h;clear h;obtain⟨⟨G,I⟩,A2,H⟩:=bindO H
 (try dsimp only at H)
 obtain⟨rfl,rfl⟩:=zP2 H
 go_enter Tryd.func108,Tryd.ntmps108
 go_wp2_with (first|((with_reducible refine gC 117 rfl ?_);refine cG (some 5) Tryd.func117 #[.int .u8 a0,.int .i64 (-1)] ?_;(with_reducible refine(field_Pow.calls a0 (-1) G I _ A2.out).mono ?_);rintro e w3 ⟨rfl,hb⟩;refine⟨_,rfl,?_⟩;replace HB:=hbB HB hb;(try clear hb)))
 go_ret2
 exact⟨rfE,hbA HB.out⟩
def mulT(a b:Int):Int:=if a=0 then 0 else if b=0 then 0 else field_build.exp (field_build.log a.toNat+field_build.log b.toNat).toNat
theorem tables_mul.calls(g:Nat)(a b:Int)(w:World)(hb:w.heap[g]? =some (.cells field_build.T 156 (0,0)))(a0:0<=a)(a1:a<256)(b0:0<=b)(b1:b<256):
 Calls Tryd.prog 119 #[.pointer (some ⟨g,0,none⟩),.int .u8 a,.int .u8 b] w fun e w'=>e= .returned (.int .u8 (mulT a b))/\Drawn0 w w':=by
 have HT:=aK hb;clear hb;by_cases h1:a=0
 ·have c1:(a==0)=true:=beq_iff_eq.mpr h1;have hfin:=aK (show mulT a b=0 by unfold mulT;rw[if_pos h1]);clear h1
  go_enter Tryd.func119,Tryd.ntmps119
  go_wp2
  go_ret
  exact⟨by rw[hfin.out];rfl,Drawn0.refl _⟩
 ·have c1:(a==0)=false:=beq_eq_false_iff_ne.mpr h1;by_cases h2:b=0
  ·have c2:(b==0)=true:=beq_iff_eq.mpr h2;have hfin:=aK (show mulT a b=0 by unfold mulT;rw[if_neg h1,if_pos h2]);clear h1 h2
   go_enter Tryd.func119,Tryd.ntmps119
   go_wp2
   go_ret
   exact⟨by rw[hfin.out];rfl,Drawn0.refl _⟩
  ·have c2:(b==0)=false:=beq_eq_false_iff_ne.mpr h2;have hfin:=aK (show mulT a b=field_build.exp (field_build.log a.toNat+field_build.log b.toNat).toNat by unfold mulT;rw[if_neg h1,if_neg h2]);clear h1 h2;obtain⟨x0,x1⟩:=field_build.log_range (i:=a.toNat) za;obtain⟨y0,y1⟩:=field_build.log_range (i:=b.toNat) za;have D:=field_build.cellL HT.out (j:=a.toNat) za;have G:=field_build.cellL HT.out (j:=b.toNat) za;have I:=field_build.cellE HT.out (j:=(field_build.log a.toNat+field_build.log b.toNat).toNat) za;generalize field_build.log a.toNat=x at*;generalize field_build.log b.toNat=y at*
   go_enter Tryd.func119,Tryd.ntmps119
   go_wp2
   go_quiet (fail)
   go_wp2
   go_ret
   exact⟨by rw[hfin.out];rfl,by repeat(first|exact Drawn0.refl _|apply Drawn0.step)⟩
def bytesB(l:List Int):Bool:=l.all fun x=>decide (0<=x)&&decide (x<256)
theorem bytesB_at{l:List Int}(h:bytesB l=true){i:Nat}(hi:i<l.length):0<=l.getD i 0/\l.getD i 0<256:=by
 have h1:=List.all_eq_true.1 h l[i] (List.getElem_mem hi);rw[List.getD_eq_getElem?_getD,List.getElem?_eq_getElem hi];simpa using h1
def field_Scale.f(c:Int)(l:List Int):Option (List Int):=if 0<=c/\c<256/\bytesB l=true/\l.length<=140737488355328 then some (l.map (mulT c))else none
def field_Scale.mid(c:Int)(l:List Int)(i:Nat):List Int:=(l.take i).map (mulT c)++List.replicate (l.length-i) 0
theorem field_Scale.mid_set(c:Int)(l:List Int)(i:Nat)(h:i<l.length):(field_Scale.mid c l i).set i (mulT c (l.getD i 0))=field_Scale.mid c l (i+1):=by
 unfold field_Scale.mid;obtain⟨d,hd⟩: ∃d,l.length-i=d+1:=⟨l.length-i-1,by omega⟩
 rw[hd,List.set_append,if_neg zk,show l.length-(i+1)=d from by omega,List.take_succ_eq_append_getElem h,List.map_append];have e:i-((l.take i).map (mulT c)).length=0:=by simp;omega
 rw[e,List.replicate_succ,List.set_cons_zero,List.getD_eq_getElem?_getD,List.getElem?_eq_getElem h];simp
theorem field_Scale.info5:(Tryd.prog.info? 5).map (fun i=>(i.zero,i.size,i.bytes))=some (some (.int .u8 0),1,1):=by kernel_rfl
theorem field_Scale.calls(a0:Int)(A1:Option Addr)(c1:Nat)(l1:List Int)(r:List Int)(w:World)(J:Kd.C (Kd.int .u8) w A1 l1.length l1)(U:l1.length<=c1)(h:field_Scale.f a0 l1=some r):
 Calls Tryd.prog 110 #[.int .u8 a0,.slice A1 l1.length c1] w fun e w'=> ∃v0_:Value,e= .returned (v0_)/\Kd.R (Kd.int .u8) 5 w' w.heap.size (fun _=>True) v0_ r/\Below w.heap.size w w':=by
 unfold field_Scale.f at h;by_cases hh:0<=a0/\a0<256/\bytesB l1=true/\l1.length<=140737488355328
 ·rw[if_pos hh]at h
  obtain⟨h0,h1,hbs,hlen⟩:=hh;have HF:=aK (Option.some.inj h);have HBS:=aK hbs;have HC:=aK J;clear h hbs J;obtain⟨len,hlen'⟩: ∃n,n=l1.length:=⟨_,rfl⟩
  rw[<-hlen']at hlen U HC⊢
  have HLN:=aK hlen';clear hlen';have hz:=field_build.zero;have hmk:=print_make (P:=Tryd.prog) 22 5 .u8 1 Tryd.underlying22 field_Scale.info5 zb len za
  go_enter Tryd.func110,Tryd.ntmps110
  go_wp2_with (first|(go_at_call 118;refine(field_build.calls _).mono ?_;rintro e w1 ⟨rfl,I⟩;have D:=aK I;clear I)|(with_reducible refine wpList_store_row rfl 156 (.tmp 5) (.tmp 9) rfl w1.heap.size field_build.T rfl rfl 156 _ (blk_new _ _) field_build.infoT field_build.sizeZ field_build.oneT ?_;rw[World.setRow_alloc_new];simp only[Act.put,List.setIfInBounds_toArray,List.set_cons_succ,List.set_cons_zero]))
  have Z:=D.out.size;have hown:=own_made (w1.alloc (.cells field_build.T 156)) w.heap.size 5 .u8 len zk za;rw[World.size_alloc]at hown
  have hTb:((w1.alloc (.cells field_build.T 156)).alloc (.cells (madeCells #[.int .u8 0] len) 5)).heap[w1.heap.size]? =some (.cells field_build.T 156 (0,0)):=heap_alloc2_old w1 _ _;have hBb:Below w.heap.size w ((w1.alloc (.cells field_build.T 156)).alloc (.cells (madeCells #[.int .u8 0] len) 5)):=below_alloc (below_alloc D.out _) _;generalize(w1.alloc (.cells field_build.T 156)).alloc (.cells (madeCells #[.int .u8 0] len) 5)=W1 at*
  go_loopw [15] (fun v wr=> ∃i:Nat,i<=len/\v= .int .i64 i/\Aside0 (wr.ownsRow w.heap.size 5 1 (.slice (some ⟨w1.heap.size+1,0,none⟩) len len) len (nums .u8 (field_Scale.mid a0 l1 i)))/\Aside0 (wr.heap[w1.heap.size]? =some (.cells field_build.T 156 (0,0)))/\Aside0 (Below w.heap.size w wr)) (fun v _=>len-(intOf v).toNat)
  case atStart=>
   refine⟨0,by omega,rfl,⟨?_⟩,⟨hTb⟩,⟨hBb⟩⟩;have:field_Scale.mid a0 l1 0=List.replicate len 0:=by simp[field_Scale.mid,<-HLN.out]
   rw[this];exact hown
  case round=>
   obtain⟨i,hi,rfl,HO,HTB,HB⟩:=hrel;clear hown hTb hBb;by_cases hlt:i<len
   ·obtain⟨ad,eA,L⟩:=Kd.at_int HC.out (i:Int) za zao;subst eA;have O:=pw_cell_below HB.out L;have hx:wr.cell? (ad.add i)=some (.int .u8 (l1.getD i 0)):=by
     rw[show l1.getD i 0=rd l1 (i:Int)from by simp[rd]];simpa using O
    have hbi:=bytesB_at HBS.out (i:=i) zao;have HMS:=aK (field_Scale.mid_set a0 l1 i zao);obtain⟨x,ex⟩: ∃x:Int,x=l1.getD i 0:=⟨_,rfl⟩
    rw[<-ex]at hx hbi HMS
    clear ex L O;obtain⟨x0,x1⟩:=hbi;obtain⟨X,Y⟩:=own_at HO.out (i:Int) za za;rw[Int.toNat_natCast]at X Y
    go_wp2_with (go_at_call 119;refine(tables_mul.calls w1.heap.size a0 x _ HTB.out h0 h1 x0 x1).mono ?_;rintro e w' ⟨rfl,⟨nd,rfl⟩⟩)
    go_roundw
    case rel=>
     refine⟨i+1,by omega,by go_num,⟨?_⟩,⟨?_⟩,⟨?_⟩⟩
     ·have h2:=(own_store (pw_own_drewN HO.out nd) (i:Int) (mulT a0 x)).1;rw[Int.toNat_natCast,HMS.out]at h2
      exact h2
     ·exact blk_far (blk_drewN HTB.out _) zd _
     ·exact(pw_below_drewN HB.out _).setCell zk _
    case measure=>simp[intOf];omega
   ·obtain rfl:i=len:=by omega
    have hfin:field_Scale.mid a0 l1 i=l1.map (mulT a0):=by unfold field_Scale.mid;rw[HLN.out];simp
    go_wp2
    go_ret
    refine⟨_,rfl,?_,HB.out⟩;have G:=HO.out;rw[hfin,HF.out]at G
    have hrl:r.length=i:=by rw[<-HF.out,List.length_map];exact HLN.out.symm
    refine Kd.R_of_own ?_ (fun _ _=>trivial);rw[hrl];exact G
 ·rw[if_neg hh]at h
  cases h
def field_Mac.l0:Nat->List Int->List Int->Int->Int->Option (List Int×Int)
 |0,_,_,_,_=>none
 |k+1,x8,G,I,D=>if D<I then(if 0<=D then(if D<(G.length:Int)then(if D<(x8.length:Int)then(field_Mac.l0 k (x8.set (D:Int).toNat (Go.bits .xor .u8 (rd x8 D) (rd G D))) G I (wrap64 (D+1)))else(none))else(none))else(none))else(some (x8,0))
def field_Mac.f(k:Nat)(l0:List Int)(a1:Int)(l2:List Int):Option (List Int×Int):=if(l0.length:Int)=(l2.length:Int)then((field_Scale.f a1 l2).bind fun D=>(field_Mac.l0 k D l0 (l0.length:Int) 0))else(some (([]:List Int),3))
theorem field_Mac.mono_l: ∀k,(∀y0 y1 y2 y3,LeO (field_Mac.l0 k y0 y1 y2 y3) (field_Mac.l0 (k+1) y0 y1 y2 y3))
 |0=>fun _ _ _ _ r h=>by simp[field_Mac.l0]at h
 |k+1=>by
  have D:=field_Mac.mono_l k
  ·intro y0 y1 y2 y3;unfold field_Mac.l0
   with_reducible repeat' first|exact D _ _ _ _|exact LeO.refl _|exact LeO.none _|refine LeO.ite ?_ ?_|refine LeO.bind ?_ (fun _=>?_)
theorem field_Mac.mono: ∀a0 a1 a2 k,LeO (field_Mac.f k a0 a1 a2) (field_Mac.f (k+1) a0 a1 a2):=by
 intro a0 a1 a2 k;have D:=field_Mac.mono_l k;unfold field_Mac.f
 with_reducible repeat' first|exact D _ _ _ _|exact LeO.refl _|exact LeO.none _|refine LeO.ite ?_ ?_|refine LeO.bind ?_ (fun _=>?_)
theorem field_Mac.calls(k:Nat)(A0:Option Addr)(c0:Nat)(l0:List Int)(a1:Int)(A2:Option Addr)(c2:Nat)(l2:List Int)(r1:List Int)(r2:Int)(w:World)(az:Kd.C (Kd.int .u8) w A0 l0.length l0)(aw:l0.length<=c0)(a0:Kd.C (Kd.int .u8) w A2 l2.length l2)(ax:l2.length<=c2)(h:field_Mac.f k l0 a1 l2=some (r1,r2)):
 Calls Tryd.prog 100 #[.slice A0 l0.length c0,.int .u8 a1,.slice A2 l2.length c2] w fun e w'=> ∃v0_:Value,e= .returned (.tuple #[v0_,.int .i64 r2])/\Kd.R (Kd.int .u8) 5 w' w.heap.size (fun _=>True) v0_ r1/\Below w.heap.size w w':=by
 have a6:=aK az;have bf:=aK aw;clear az aw;have a7:=aK a0;have a5:=aK ax;clear a0 ax;have HB:=aK (Below.refl w.heap.size w);have H:(if(l0.length:Int)=(l2.length:Int)then((field_Scale.f a1 l2).bind fun L=>(field_Mac.l0 k L l0 (l0.length:Int) 0))else(some (([]:List Int),3)))=some (r1,r2):=h;clear h;by_cases c4:(l0.length:Int)=(l2.length:Int)
 case neg=>
  rw[if_neg c4]at H
  have c4b0:((l0.length:Int)==(l2.length:Int))=false:=beq_eq_false_iff_ne.mpr c4;have c4b1:((l0.length:Int)!=(l2.length:Int))=true:=bne_iff_ne.mpr c4;have c4b2:(l0.length==l2.length)=false:=by first|simpa using c4|(simp at c4⊢;omega)
  obtain⟨rfl,rfl⟩:=zP2 H
  go_enter Tryd.func100,Tryd.ntmps100
  go_wp2
  go_ret2
  exact⟨_,rfE,nilE,hbA HB.out⟩
 rw[if_pos c4]at H
 have c4b0:((l0.length:Int)==(l2.length:Int))=true:=beq_iff_eq.mpr c4;have c4b1:((l0.length:Int)!=(l2.length:Int))=false:=bne_eq_false_iff_eq.mpr c4;have c4b2:(l0.length==l2.length)=true:=by first|simpa using c4|(simp at c4⊢;omega)
 clear c4;obtain⟨L,A5,H⟩:=bindO H
 (try dsimp only at H)
 have H':=aK H;clear H
 go_enter Tryd.func100,Tryd.ntmps100
 go_wp2_with (first|((with_reducible refine gC 110 rfl ?_);refine cG (some 18) Tryd.func110 #[.int .u8 a1,.slice A2 l2.length c2] ?_;(with_reducible refine(field_Scale.calls a1 _ _ l2 L _ ?side1 ?side2 A5.out).mono ?_);(case side1=>exact kcA a7.out);(case side2=>exact a5.out);rintro e w6 ⟨a2,rfl,ay,hb⟩;refine⟨_,rfl,?_⟩;have ai:=aK (Kd.R_lower ay (below_size (hbA HB.out)));replace HB:=hbB HB hb;(try clear hb);(try clear ay)))
 go_loopg [21] k (fun kq ba w'=> ∃(G:List Int) (D:Int),ba= .int .i64 D/\Aside0 (field_Mac.l0 kq G l0 (l0.length:Int) D=some (r1,r2))/\Aside0 (kq<=k)/\Aside0 (Kd.R (Kd.int .u8) 5 w' w.heap.size (fun _=>True) a2 G)/\Aside0 (Below w.heap.size w w'))
 case atStart=>exact⟨(L),(0),rsE,H',⟨Nat.le_refl _⟩,⟨kdA ai.out⟩,⟨hbA HB.out⟩⟩
 case round=>
  clear H'
  (try clear c1);(try clear c2);(try clear p2);(try clear c4);(try clear c4b0);(try clear c4b1);(try clear c4b2)
  obtain⟨G,D,rfl,HA,ao,HO_8,HB⟩:=hrel
  cases gk with
  |zero=>exact absurd HA.out (by simp[field_Mac.l0])
  |succ k1=>
   have H:=HA.out;clear HA;simp only[field_Mac.l0]at H;by_cases c7:D<(l0.length:Int)
   case neg=>
    rw[if_neg c7]at H
    have c7b0:decide (D<(l0.length:Int))=false:=decide_eq_false c7;clear c7;obtain⟨rfl,rfl⟩:=zP2 H;go_wp2
    go_ret2
    exact⟨_,rfE,by(with_reducible repeat(first|apply Kd.R_alloc|apply Kd.R_drewN|apply Kd.R_drew));exact HO_8.out,hbA HB.out⟩
   rw[if_pos c7]at H
   have c7b0:decide (D<(l0.length:Int))=true:=decide_eq_true c7;clear c7;by_cases c8:0<=D
   case neg=>rw[if_neg c8]at H;exact absurd H zd
   rw[if_pos c8]at H
   have c8b0:decide (0<=D)=true:=decide_eq_true c8;clear c8;by_cases c9:D<(l0.length:Int)
   case neg=>rw[if_neg c9]at H;exact absurd H zd
   rw[if_pos c9]at H
   have c9b0:decide (D<(l0.length:Int))=true:=decide_eq_true c9;clear c9;by_cases ae:D<(G.length:Int)
   case neg=>rw[if_neg ae]at H;exact absurd H zd
   rw[if_pos ae]at H
   have c10b0:decide (D<(G.length:Int))=true:=decide_eq_true ae;clear ae;obtain⟨ac,J⟩: ∃y_:List Int,y_=(G.set (D:Int).toNat (Go.bits .xor .u8 (rd G D) (rd l0 D))):=⟨_,rfl⟩
   replace H:(field_Mac.l0 k1 ac l0 (l0.length:Int) (wrap64 (D+1)))=some (r1,r2):=zH J H
   have aj:=aK J;clear J;have H':=aK H;clear H;have Y:0<=(D:Int):=of_decide_eq_true asE;have aa:D<(l0.length:Int):=of_decide_eq_true asE;obtain⟨a8,aq,I⟩:=Kd.at_int a6.out D Y aa
   cases aq
   replace I:=(HB.out.cell (World.block_lt_of_cell? w _ I)).trans I;replace Y:=eq_true Y;replace aa:=eq_true aa;obtain⟨bb,ap,au⟩:=Kd.R_slice HO_8.out;subst au;have Z:0<=(D:Int):=of_decide_eq_true asE;have ab:D<(G.length:Int):=of_decide_eq_true asE;obtain⟨a9,ar,X⟩:=Kd.at_int (Kd.R_reads' HO_8.out).2.2 D Z ab
   cases ar
   replace Z:=eq_true Z;replace ab:=eq_true ab;have ak:0<=(D:Int):=of_decide_eq_true asE;have al:(D:Int)<((G.length:Int):Int):=of_decide_eq_true asE;obtain⟨U,be,ag,ah,av,bd,af⟩:=Kd.R_form HO_8.out za
   (first|cases ag|(injection ag with ea_ en_ ec_;(first|subst ea_|(injection ea_ with ea_;subst ea_));subst ec_;clear en_))
   have an:=aK ah;have bc:=aK af;clear ah av af
   (first|simp only[add_plain]at X|skip)
   obtain⟨a4,a3⟩:=Kd.R_celln 0 HO_8.out (D:Int) ak al;replace ak:=eq_true ak;replace al:=eq_true al;have O:=Kd.R_putg HO_8.out (D:Int) (Go.bits .xor .u8 (rd G D) (rd l0 D))
   go_wp2_with (first|((with_reducible refine gate_store (t:=5) (p:=32) rfl ?_);refine store_event (t:=5) (p:=32) (v:=?vo_w14) (w1:=(wr.setCell ⟨U,(D:Int).toNat,none⟩ (.int .u8 (Go.bits .xor .u8 (rd G D) (rd l0 D))))) ?hg ?ho ?hn ?hr ?_;(case ho=>rfl);(case hg=>rfl);(case hn=>rfl);(case hr=>first|(go_simp;done)|(go_simp;rfl));intro am hw;have hg:wr.grownBy am (some U):=(by rw[hw];exact O.2);have hp_:Kd.R (Kd.int .u8) 5 am w.heap.size (fun _=>True) (.slice (some ⟨U,0,none⟩) G.length ap) ac:=(by rw[hw,aj.out];exact O.1);clear O;replace HO_8:=aK (hp_);replace HB:=aK ((by rw[hw];exact below_set (HB.out) an.out:Below w.heap.size w am));clear hg hw hp_))
   go_roundg k1
   case measure=>have:=ao.out;omega
   case rel=>exact⟨(ac),(wrap64 (D+1)),rsE,H',⟨by have:=ao.out;omega⟩,⟨kdA HO_8.out⟩,⟨hbA HB.out⟩⟩
end Go.Proofs.YtjgcocfnilhggaaDoor.Q
