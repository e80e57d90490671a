/- Texts of the proof of ShareSteps: what each Go function answers, and what the answers mean; no condition beyond each theorem's own. -/
import Derived.Below
import Derived.Deep.Draws
import Derived.Deep.AppendLies
import Derived.Maps.AppendAt
import Derived.OwnWalk
import Derived.Laws.BytesArg
import Derived.Laws.MakeOwn
import Derived.Laws.OwnMore
import Derived.Deep.OwnRows
import Derived.Tactics
import Derived.Lib.ConvBytes
import Derived.Laws.Slices
import Derived.WalkKit
import Derived.KernelRfl
import Derived.RowKit3
import Derived.Deep.LoopGhost
import Derived.Deep.QuietTactic
import Derived.BigQuiet
import Derived.WideLaws
import Derived.Deep.DeepCutAuto
import Derived.Deep.CutBlock
import Derived.Deep.RegionHeld3
import Derived.Laws.Rows
import Derived.Lib.AppendStr
import Derived.ArgAppend
import Derived.Laws.IdiomCopy
import Derived.RowKit
import Derived.OrdersHeld
import Derived.Laws.BitsLemmas
import Derived.Laws.StructEq
import Derived.SizedLaws
import Derived.ChangeSlices
import Derived.OwnWalkIn
import Derived.TacticsInMore
import Derived.Test.YtnfemjnajfdepaaProg
import Derived.Deep.WholeRow
import Derived.Laws.NewBlocks
import Derived.Laws.CopyOwn
import Derived.ScopeJumps
import Derived.WalkMore
import Derived.WalkSpells
import Derived.Shelf.Abstract
set_option maxHeartbeats 16000000
set_option maxRecDepth 100000
set_option linter.unusedVariables false
set_option linter.unusedSimpArgs false
namespace Go.Proofs.YtnfemjnajfdepaaW.PrintWords
open RowKit
structure Aside0 (p:Prop):Prop where mk::(out:p)
structure Drawn0 (w w':World):Prop where mk::(out: ∃n,w'=w.drewN n)
theorem Drawn0.refl(w:World):Drawn0 w w:=⟨⟨0,rfl⟩⟩
theorem Drawn0.step{w w':World}(h:Drawn0 w w')(n:Nat):Drawn0 w (w'.drewN n):=by
 obtain⟨m,rfl⟩:=h;exact⟨⟨m+n,World.drewN_drewN ..⟩⟩
theorem Drawn0.grown{w w':World}(h:Drawn0 w w'):Grown w w':=by
 obtain⟨n,rfl⟩:=h
 induction n with
 |zero=>exact Grown.refl _
 |succ n ih=>rw[<-World.drew_drewN];exact Grown.drew ih
theorem Drawn0.below{w w':World}(h:Drawn0 w w'):Below w.heap.size w w':=by
 obtain⟨n,rfl⟩:=h
 induction n with
 |zero=>exact Below.refl _ _
 |succ n ih=>rw[<-World.drew_drewN];exact ih.drew
def rd(xs:List Int)(i:Int):Int:=xs.getD i.toNat 0
def bt(s:ByteArray)(i:Int):Int:=if h:i.toNat<s.size then((s[i.toNat]'h).toNat:Int)else 0
def nums(k:IntKind)(xs:List Int):List Value:=xs.map fun x=> .int k x
theorem below_alloc{w W:World}(h:Below w.heap.size w W)(o:Obj):Below w.heap.size w (W.alloc o):=h.alloc h.size o
theorem below_drew{B:Nat}{w W:World}(h:Below B w W):Below B w W.drew:=⟨h.os,h.tape,h.output,h.size,h.block⟩
theorem pw_below_drewN{B:Nat}{w W:World}(h:Below B w W)(n:Nat):Below B w (W.drewN n):=⟨h.os,h.tape,h.output,h.size,h.block⟩
theorem below_then{B:Nat}{w w1 w2:World}(h:Below B w w1)(hB:B<=w1.heap.size)(k:Below w1.heap.size w1 w2):Below B w w2:=
 h.trans ⟨k.os,k.tape,k.output,k.size,fun i hi=>k.block i (Nat.lt_of_lt_of_le hi hB)⟩
theorem grown_of_below{w w1:World}(h:Below w.heap.size w w1)(row:Option Nat):w.grownBy w1 row:=⟨h.os,h.tape,h.output,h.size,fun i hi _=>h.block i hi⟩
theorem pw_cell_below{w w1:World}(h:Below w.heap.size w w1){a:Addr}{v:Value}(hc:w.cell? a=some v):w1.cell? a=some v:=(h.cell (World.block_lt_of_cell? w a hc)).trans hc
theorem add_plain(g j:Nat):(⟨g,0,none⟩:Addr).add j=⟨g,j,none⟩:=by unfold Addr.add;split<;>simp_all
def ReadsInt(w:World)(k:IntKind)(A:Option Addr)(n:Nat)(xs:List Int):Prop:=
 xs.length=n/\n<=9223372036854775807/\(0<n-> ∃ad,A=some ad/\ ∀j,j<n->w.cell? (ad.add j)=some (.int k (xs.getD j 0)))
theorem ReadsInt.at_{w:World}{k:IntKind}{A:Option Addr}{n:Nat}{xs:List Int}(h:ReadsInt w k A n xs)(i:Int)(h0:0<=i)(h1:i<n): ∃ad,A=some ad/\w.cell? (ad.add i.toNat)=some (.int k (rd xs i)):=by
 obtain⟨ad,e,hc⟩:=h.2.2 (by omega);exact⟨ad,e,hc _ (by omega)⟩
theorem ReadsInt.below{w w1:World}{k:IntKind}{A:Option Addr}{n:Nat}{xs:List Int}(h:ReadsInt w k A n xs)(hb:Below w.heap.size w w1):ReadsInt w1 k A n xs:=
 ⟨h.1,h.2.1,fun hn=>by
  obtain⟨ad,e,hc⟩:=h.2.2 hn;exact⟨ad,e,fun j hj=>pw_cell_below hb (hc j hj)⟩⟩
theorem own_nil(W:World)(base:Nat)(e:TypeId)(size:Nat):W.ownsRow base e size (.slice none 0 0) 0 []:=⟨by simp,.inl ⟨rfl,rfl⟩⟩
theorem own_base{w:World}{base:Nat}{e:TypeId}{size n:Nat}{v:Value}{xs:List Value}(h:w.ownsRow base e size v n xs)(k:Nat)(hk:v.ownBlock=some k):base<=k:=by
 rcases h.2 with⟨rfl,_⟩|⟨g,cap,cur,rfl,hb,_⟩
 ·simp[Value.ownBlock]at hk
 ·have:g=k:=by simpa[Value.ownBlock]using hk
  omega
theorem own_lt{w:World}{base:Nat}{e:TypeId}{size n:Nat}{v:Value}{xs:List Value}(h:w.ownsRow base e size v n xs)(k:Nat)(hk:v.ownBlock=some k):k<w.heap.size:=by
 rcases h.2 with⟨rfl,_⟩|⟨g,cap,cur,rfl,hb,hh,_⟩
 ·simp[Value.ownBlock]at hk
 ·have:g=k:=by simpa[Value.ownBlock]using hk
  subst this;exact(Array.getElem?_eq_some_iff.1 hh).1
theorem pw_own_below{w w1:World}{base:Nat}{e:TypeId}{size n:Nat}{v:Value}{xs:List Value}(h:w.ownsRow base e size v n xs)(hb:Below w.heap.size w w1):w1.ownsRow base e size v n xs:=
 h.kept (grown_of_below hb none) (by cases v.ownBlock<;>simp)
theorem own_other{w w1:World}{base:Nat}{e:TypeId}{size n:Nat}{v:Value}{xs:List Value}(h:w.ownsRow base e size v n xs){row:Option Nat}(hg:w.grownBy w1 row)(hne:v.ownBlock=none∨v.ownBlock≠row):w1.ownsRow base e size v n xs:=h.kept hg hne
theorem own_string{P:Program}{w:World}{base n:Nat}{e' src dst e:TypeId}{v:Value}{xs:List Int}(hs:P.underlying src=some (.slice e))(he:P.underlying e=some (.int .u8))(hd:P.underlying dst=some .string)
 (h:w.ownsRow base e' 1 v n (nums .u8 xs)):(convert src dst v).run P w= .ok (.string (strOfNums xs)) w:=by
 have hl:xs.length=n:=by have:=h.1;simp[nums]at this;exact this
 rcases h.2 with⟨rfl,rfl⟩|⟨g,cap,cur,rfl,_⟩
 ·obtain rfl:xs= []:=List.eq_nil_of_length_eq_zero hl;exact run_convert_bytes_nil w src e hs he 0 0 dst hd
 ·refine run_convert_bytes_arg w src e hs he g 0 n cap xs hl (fun i hi=>?_) dst hd;have hc:=h.cells (g:=g) rfl i (.int .u8 (xs.getD i 0)) (by simp[nums,List.getElem?_eq_getElem (show i<xs.length by omega),List.getD_eq_getElem?_getD]);have ha:(⟨g,0,none⟩:Addr).add i=⟨g,0+i,none⟩:=by unfold Addr.add;split<;>simp_all
  rwa [ha]at hc
section
variable {P:Program}
theorem print_make(t e:TypeId)(k:IntKind)(bytes:Nat)(ht:P.underlying t=some (.slice e))(hinfo:(P.info? e).map (fun i=>(i.zero,i.size,i.bytes))=some (some (.int k 0),1,bytes))(hb0:0<bytes)
 (m:Nat) (hn:m*bytes<=281474976710656):
 ∀W:World,(Instr.makeSlice t (.int .i64 (m:Int)) (.int .i64 (m:Int))).run P W= .ok (.slice (some ⟨W.heap.size,0,none⟩) m m) (W.alloc (.cells (madeCells #[.int k 0] m) e)):=by
 intro W;have hm:m<=281474976710656:=Nat.le_trans (Nat.le_mul_of_pos_right _ hb0) hn;exact run_make_row' t e (.int k 0) bytes ht hinfo rfl .i64 .i64 m (by rw[Nat.mul_comm];exact hn) (by omega) W
end
theorem own_made(W:World)(base:Nat)(e:TypeId)(k:IntKind)(m:Nat)(hb:base<=W.heap.size)(hm:m<=9223372036854775807):
 (W.alloc (.cells (madeCells #[.int k 0] m) e)).ownsRow base e 1 (.slice (some ⟨W.heap.size,0,none⟩) m m) m (nums k (List.replicate m 0)):=by
 have h:=World.ownsRow_lit (base:=base) (e:=e) (size:=1) W (madeCells #[.int k 0] m) m hb (by simpa[maxLen]using hm) (by simp[size_madeCells]);have hl:(madeCells #[Value.int k 0] m).toList=nums k (List.replicate m 0):=by
  apply List.ext_getElem
  ·simp[nums,madeCells]
  ·intro i h1 h2;simp[nums,madeCells,Nat.mod_one]
 rwa [hl]at h
theorem own_at{W:World}{base g n cap:Nat}{e:TypeId}{k:IntKind}{xs:List Int}(h:W.ownsRow base e 1 (.slice (some ⟨g,0,none⟩) n cap) n (nums k xs))(i:Int)(h0:0<=i)(h1:i<n):
 W.cell? ⟨g,i.toNat,none⟩=some (.int k (rd xs i))/\W.frozen? ⟨g,i.toNat,none⟩=false:=by
 have hl:xs.length=n:=by have:=h.1;simp[nums]at this;exact this
 constructor
 ·have hc:=h.cells (g:=g) rfl i.toNat (.int k (rd xs i)) (by simp[nums,rd,List.getElem?_eq_getElem (show i.toNat<xs.length by omega),List.getD_eq_getElem?_getD])
  rwa [add_plain]at hc
 ·rcases h.2 with⟨h',_⟩|⟨g',cap',cur,h',_,hh,_⟩
  ·cases h'
  ·have:g=g':=by injection h' with h';injection h' with h';injection h' with h'
   subst this;simp[World.frozen?,hh]
theorem own_store{W:World}{base g n cap:Nat}{e:TypeId}{k:IntKind}{xs:List Int}(h:W.ownsRow base e 1 (.slice (some ⟨g,0,none⟩) n cap) n (nums k xs))(i x:Int):
 (W.setCell ⟨g,i.toNat,none⟩ (.int k x)).ownsRow base e 1 (.slice (some ⟨g,0,none⟩) n cap) n (nums k (xs.set i.toNat x))/\W.grownBy (W.setCell ⟨g,i.toNat,none⟩ (.int k x)) (some g):=by
 have hs:=h.stored i.toNat (.int k x);have he:(nums k xs).set i.toNat (.int k x)=nums k (xs.set i.toNat x):=by simp[nums,List.map_set]
 rwa [he]at hs
def bytesOf(s:ByteArray):List Int:=s.data.toList.map fun b=>(b.toNat:Int)
theorem ReadsInt.take_{w:World}{k:IntKind}{A:Option Addr}{n:Nat}{xs:List Int}(h:ReadsInt w k A n xs)(i:Nat)(hi:i<=n):ReadsInt w k A i (xs.take i):=by
 refine⟨by rw[List.length_take,h.1];omega,by have:=h.2.1;omega,fun hp=>?_⟩;obtain⟨ad,e,hc⟩:=h.2.2 (by omega);refine⟨ad,e,fun j hj=>?_⟩;rw[hc j (by omega)];simp[List.getD_eq_getElem?_getD,hj]
def LeO{α:Type}(a b:Option α):Prop:= ∀r,a=some r->b=some r
theorem LeO.refl{α:Type}(a:Option α):LeO a a:=fun _ h=>h
theorem LeO.none{α:Type}(b:Option α):LeO Option.none b:=fun _ h=>by cases h
theorem LeO.trans{α:Type}{a b c:Option α}(h:LeO a b)(k:LeO b c):LeO a c:=fun r hr=>k r (h r hr)
theorem LeO.ite{α:Type}{c:Prop} [Decidable c]{a a' b b':Option α}(h:LeO a a')(k:LeO b b'):LeO (if c then a else b) (if c then a' else b'):=by
 split
 ·exact h
 ·exact k
theorem LeO.bind{α β:Type}{a a':Option α}{f f':α->Option β}(h:LeO a a')(k: ∀x,LeO (f x) (f' x)):LeO (a.bind f) (a'.bind f'):=by
 intro r hr;obtain⟨x,hx,hf⟩:=Option.bind_eq_some_iff.1 hr;exact Option.bind_eq_some_iff.2 ⟨x,h x hx,k x r hf⟩
theorem LeO.map{α β:Type}{a a':Option α}(f:α->β)(h:LeO a a'):LeO (a.map f) (a'.map f):=by
 intro r hr;obtain⟨x,hx,hf⟩:=Option.map_eq_some_iff.1 hr;exact Option.map_eq_some_iff.2 ⟨x,h x hx,hf⟩
theorem more_rounds{α:Type}{g:Nat->Option α}(h: ∀k,LeO (g k) (g (k+1)))(k:Nat): ∀j,LeO (g k) (g (k+j))
 |0=>LeO.refl _
 |j+1=>(more_rounds h k j).trans (h (k+j))
theorem at_rounds{α:Type}{g:Nat->Option α}(h: ∀k,LeO (g k) (g (k+1))){k k':Nat}(hk:k<=k'){r:α}(hr:g k=some r):g k'=some r:=by
 have:=more_rounds h k (k'-k) r hr
 rwa [Nat.add_sub_cancel' hk]at this
theorem together{α β:Type}{g:Nat->Option α}{f:Nat->Option β}(hg: ∀k,LeO (g k) (g (k+1)))(hf: ∀k,LeO (f k) (f (k+1))){r:α}{q:β}(h: ∃k,g k=some r)(h': ∃k,f k=some q): ∃k,g k=some r/\f k=some q:=by
 obtain⟨k,hk⟩:=h;obtain⟨k',hk'⟩:=h';exact⟨max k k',at_rounds hg (Nat.le_max_left _ _) hk,at_rounds hf (Nat.le_max_right _ _) hk'⟩
def Reps{α:Type}(R:α->List Value->Prop)(size:Nat)(ps:List α)(cs:List Value):Prop:=
 cs.length=ps.length*size/\ ∀j p,ps[j]? =some p->R p ((cs.drop (j*size)).take size)
theorem Reps.none{α:Type}(R:α->List Value->Prop)(size:Nat):Reps R size [] []:=⟨by simp,fun j p h=>by simp at h⟩
theorem Reps.snoc{α:Type}{R:α->List Value->Prop}{size:Nat}{ps:List α}{cs c:List Value}{p:α}(h:Reps R size ps cs)(hp:R p c)(hc:c.length=size):Reps R size (ps++ [p]) (cs++c):=by
 refine⟨by rw[List.length_append,h.1,hc,List.length_append,List.length_singleton,Nat.add_mul,Nat.one_mul],fun j q hq=>?_⟩;rcases Nat.lt_or_ge j ps.length with hj|hj
 ·rw[List.getElem?_append_left hj]at hq
  have h1:j*size+size<=cs.length:=by rw[h.1,<-Nat.succ_mul];exact Nat.mul_le_mul_right _ hj
  have h2:=h.2 j q hq;rw[List.drop_append_of_le_length (by omega),List.take_append_of_le_length (by rw[List.length_drop];omega)];exact h2
 ·have hj':j=ps.length:=by
   have:=(List.getElem?_eq_some_iff.1 hq).1;rw[List.length_append,List.length_singleton]at this
   omega
  subst hj';have hq':p=q:=by simpa using hq
  subst hq';rw[<-h.1,List.drop_left,<-hc,List.take_length];exact hp
theorem Reps.imp_{α:Type}{R R':α->List Value->Prop}{size:Nat}{ps:List α}{cs:List Value}(h:Reps R size ps cs)(hR: ∀p c,R p c->R' p c):Reps R' size ps cs:=⟨h.1,fun j p hj=>hR _ _ (h.2 j p hj)⟩
def ReadsRow{α:Type}(R:α->List Value->Prop)(size:Nat)(w:World)(A:Option Addr)(n:Nat)(ps:List α):Prop:=
 ps.length=n/\n<=9223372036854775807/\(0<n-> ∃ad,A=some ad/\ ∀j p,ps[j]? =some p-> ∃c,c.length=size/\R p c/\ ∀i u,c[i]? =some u->w.cell? (ad.add (j*size+i))=some u)
theorem ReadsRow.get_{α:Type}{R:α->List Value->Prop}{size:Nat}{w:World}{A:Option Addr}{n:Nat}{ps:List α}(h:ReadsRow R size w A n ps)(d:α)(i:Int)(h0:0<=i)(h1:i<n):
 ∃ad c,A=some ad/\c.length=size/\R (ps.getD i.toNat d) c/\ ∀j u,c[j]? =some u->w.cell? (ad.add (i.toNat*size+j))=some u:=by
 obtain⟨ad,e,hc⟩:=h.2.2 (by omega);have hl:i.toNat<ps.length:=by have:=h.1;omega
 obtain⟨c,hs,hr,hcell⟩:=hc i.toNat _ (List.getElem?_eq_getElem hl);refine⟨ad,c,e,hs,?_,hcell⟩;rw[List.getD_eq_getElem?_getD,List.getElem?_eq_getElem hl];exact hr
theorem ReadsRow.imp_{α:Type}{R R':α->List Value->Prop}{size:Nat}{w w1:World}{A:Option Addr}{n:Nat}{ps:List α}(h:ReadsRow R size w A n ps)(hb:Below w.heap.size w w1)(hR: ∀p c,R p c->R' p c):ReadsRow R' size w1 A n ps:=
 ⟨h.1,h.2.1,fun hn=>by
  obtain⟨ad,e,hc⟩:=h.2.2 hn;refine⟨ad,e,fun j p hj=>?_⟩;obtain⟨c,hs,hr,hcell⟩:=hc j p hj;exact⟨c,hs,hR _ _ hr,fun i u hu=>pw_cell_below hb (hcell i u hu)⟩⟩
theorem own_reads_row{α:Type}{R:α->List Value->Prop}{w:World}{base n size:Nat}{e:TypeId}{v:Value}{ps:List α}{cs:List Value}(h:w.ownsRow base e size v n cs)(hR:Reps R size ps cs)(hn:ps.length=n):
 ∃A c,v= .slice A n c/\ReadsRow R size w A n ps:=by
 rcases Nat.eq_zero_or_pos n with h0|h0
 ·rcases h.2 with⟨rfl,rfl⟩|⟨g,cap,cur,rfl,_⟩
  ·exact⟨none,0,rfl,hn,by omega,fun hp=>absurd hp (by omega)⟩
  ·exact⟨_,cap,rfl,hn,by omega,fun hp=>absurd hp (by omega)⟩
 ·obtain⟨g,cap,rfl,_,_⟩:=h.form h0;have hm:n<=9223372036854775807:=by
   rcases h.2 with⟨_,h1⟩|⟨g',cap',cur,he,_,_,h1,h2,_⟩
   ·omega
   ·simp only[maxLen]at h2;omega
  refine⟨_,cap,rfl,hn,hm,fun _=>⟨_,rfl,fun j p hj=>⟨(cs.drop (j*size)).take size,?_,hR.2 j p hj,fun i u hu=>?_⟩⟩⟩
  ·have hjl:=(List.getElem?_eq_some_iff.1 hj).1;have h1:j*size+size<=cs.length:=by rw[hR.1,<-Nat.succ_mul];exact Nat.mul_le_mul_right _ hjl
   rw[List.length_take,List.length_drop];omega
  ·refine h.cells (g:=g) rfl _ u ?_;rw[List.getElem?_take]at hu
   split at hu
   ·rw[List.getElem?_drop]at hu
    exact hu
   ·cases hu
theorem add_field(ad:Addr)(m j:Nat)(hj:0<j):ad.add (m+j)=⟨(ad.add m).block,(ad.add m).off+j,none⟩:=by
 unfold Addr.add;by_cases hm:m=0
 case neg=>simp[hm,Nat.add_assoc]
 subst hm;simp[Nat.ne_of_gt hj]
section
variable {P:Program} {ops:Array Oper} {rest:List Oper} {o:Oper} {a:Act} {Q:Exit->Act->World->Prop}
theorem print_append_cells{w0 W:World}(base:Nat)(hgd:o.guard=none)(s x:Operand)(t e:TypeId)(z:Value)(size bytes:Nat)
 (ho:o.op= .call { callee:= .builtin .append,args:= #[s,x],argTypes:= #[t,t] })
 (ht:P.underlying t=some (.slice e)) (hinfo:(P.info? e).map (fun i=>(i.zero,i.size,i.bytes))=some (some z,size,bytes)) (hz:z.cells.size=size) (hs0:0<size) (hb0:0<bytes)
 (v:Value) (n:Nat) (xs ys:List Value) (hs:a.eval s=v) (hx:a.eval x= .slice (some ⟨W.heap.size,0,none⟩) 1 1) (hys:ys.length=size) (h1: ∀u∈ys,u.oneCell'=true)
 (HO:W.ownsRow base e size v n xs) (HB:Below base w0 W) (hbase:base<=W.heap.size) (hl:(n+1)*bytes<=140737488355328)
 (h: ∀v1 w1,w1.ownsRow base e size v1 (n+1) (xs++ys)->Below base w0 w1->W.grownBy w1 v.ownBlock->(v1.ownBlock=v.ownBlock∨ ∃b,v1.ownBlock=some b/\W.heap.size<=b)->wpList P ops Q rest (a.put o.dst v1) w1):
 wpList P ops Q (o::rest) a (W.alloc (.cells ys.toArray e)):=by
 obtain⟨i0,hi,hzz⟩:=Option.map_eq_some_iff.1 hinfo;simp only[Prod.mk.injEq]at hzz;obtain⟨hz0,hz1,hz2⟩:=hzz;have hlen:n+1<=140737488355328:=Nat.le_trans (Nat.le_mul_of_pos_right _ hb0) hl
 refine wpList_append_own_at (W.alloc (.cells ys.toArray e)) hgd s x t ho base e i0 z size bytes ht hi hz0 hz1 hz2 hz hs0 v n xs hs (HO.alloc _) ⟨W.heap.size,0,none⟩ 1 1 ys hx (by rw[hys];simp)
  (by simpa using World.news_of_block (cs:=ys.toArray) (t:=e) (fr:=(0,0)) (heap_alloc_new W (.cells ys.toArray e))) h1 (by simp only[maxLen];omega) hl (by simp;omega) ?_
 intro v1 w1 hown hg _ hat;refine h v1 w1 hown ((HB.alloc hbase _).grown hg (by simp;omega) (own_base HO)) (World.grownBy.trans (World.grownBy_alloc W _ _) hg) ?_;rcases hat with hat|hat
 ·exact .inl hat
 ·exact .inr ⟨_,hat,by simp⟩
end
theorem own_ne{w:World}{base:Nat}{e t:TypeId}{size n g:Nat}{v:Value}{xs:List Value}{cs:Array Value}(h:w.ownsRow base e size v n xs)(hg:w.heap[g]? =some (.cells cs t (0,0)))(hne:e≠t):some g≠v.ownBlock:=by
 rcases h.2 with⟨rfl,_⟩|⟨g',cap,cur,rfl,_,hh,_⟩
 ·simp[Value.ownBlock]
 ·intro he;have:g=g':=by simpa[Value.ownBlock]using he
  subst this;rw[hg]at hh
  injection hh with hh;injection hh with _ ht;exact hne ht.symm
theorem blk_set{w:World}{g:Nat}{t:TypeId}{cs:Array Value}(h:w.heap[g]? =some (.cells cs t (0,0)))(i:Nat)(u:Value):(w.setCell ⟨g,i,none⟩ u).heap[g]? =some (.cells (cs.setIfInBounds i u) t (0,0)):=by
 simp[World.setCell,Array.getElem?_modify,h]
theorem blk_far{w:World}{g:Nat}{t:TypeId}{cs:Array Value}(h:w.heap[g]? =some (.cells cs t (0,0))){p:Addr}(hp:g≠p.block)(u:Value):(w.setCell p u).heap[g]? =some (.cells cs t (0,0)):=(Below.heap_setCell w p u g hp).trans h
theorem blk_lt{w:World}{g:Nat}{o:Obj}(h:w.heap[g]? =some o):g<w.heap.size:=(Array.getElem?_eq_some_iff.1 h).1
theorem blk_cell{w:World}{g:Nat}{t:TypeId}{cs:Array Value}(h:w.heap[g]? =some (.cells cs t (0,0)))(i:Nat):w.cell? ⟨g,i,none⟩=cs[i]? :=cell_of_row w g i cs t (0,0) h
theorem blk_frozen{w:World}{g:Nat}{t:TypeId}{cs:Array Value}(h:w.heap[g]? =some (.cells cs t (0,0)))(i:Nat):w.frozen? ⟨g,i,none⟩=false:=by simp[World.frozen?,h]
theorem blk_grown{w w1:World}{g:Nat}{o:Obj}{row:Option Nat}(h:w.heap[g]? =some o)(hg:w.grownBy w1 row)(hne:some g≠row):w1.heap[g]? =some o:=(hg.block g (blk_lt h) hne).trans h
def KeepBut(w w':World)(g:Nat)(row:Option Nat):Prop:=w.heap.size<=w'.heap.size/\ ∀i,i<w.heap.size->i≠g->some i≠row->w'.heap[i]? =w.heap[i]?
theorem KeepBut.refl(w:World)(g:Nat)(row:Option Nat):KeepBut w w g row:=⟨Nat.le_refl _,fun _ _ _ _=>rfl⟩
theorem KeepBut.of_below{w w1:World}(h:Below w.heap.size w w1)(g:Nat)(row:Option Nat):KeepBut w w1 g row:=⟨h.size,fun i hi _ _=>h.block i hi⟩
theorem KeepBut.trans{w w1 w2:World}{g:Nat}{row row1:Option Nat}(h:KeepBut w w1 g row)(k:KeepBut w1 w2 g row1)(hr:row1=row∨ ∃b,row1=some b/\w.heap.size<=b):KeepBut w w2 g row:=
 ⟨Nat.le_trans h.1 k.1,fun i hi hg hn=>by
  refine(k.2 i (Nat.lt_of_lt_of_le hi h.1) hg ?_).trans (h.2 i hi hg hn);rcases hr with rfl|⟨b,rfl,hb⟩
  ·exact hn
  ·intro e;injection e with e;omega⟩
theorem KeepBut.blk{w w1:World}{g g':Nat}{row:Option Nat}{o:Obj}(h:KeepBut w w1 g row)(hb:w.heap[g']? =some o)(hg:g'≠g)(hr:some g'≠row):w1.heap[g']? =some o:=(h.2 g' (blk_lt hb) hg hr).trans hb
theorem KeepBut.own{w w1:World}{g:Nat}{row:Option Nat}{base:Nat}{e:TypeId}{size n:Nat}{v:Value}{xs:List Value}(h:KeepBut w w1 g row)(ho:w.ownsRow base e size v n xs)(hg:v.ownBlock≠some g)(hr:v.ownBlock=none∨v.ownBlock≠row):w1.ownsRow base e size v n xs:=by
 obtain⟨h1,h2⟩:=ho;refine⟨h1,?_⟩;rcases h2 with h2|⟨b,cap,cur,rfl,hb,hh,r⟩
 ·exact .inl h2
 ·refine .inr ⟨b,cap,cur,rfl,hb,h.blk hh ?_ ?_,r⟩
  ·intro e;exact hg (by rw[<-e];rfl)
  ·rcases hr with hr|hr
   ·simp[Value.ownBlock]at hr
   ·exact hr
def Ev{α:Type}(g:Nat->Option α)(r:α):Prop:= ∃K,∀k,K<=k->g k=some r
theorem Ev.of{α:Type}{g:Nat->Option α}{r:α}(hg: ∀k,LeO (g k) (g (k+1))){k:Nat}(h:g k=some r):Ev g r:=⟨k,fun _ hk=>at_rounds hg hk h⟩
theorem Ev.now{α:Type}(r:α):Ev (fun _=>some r) r:=⟨0,fun _ _=>rfl⟩
theorem Ev.rounds{α:Type}{g:Nat->Option α}{r:α}(h:Ev g r): ∃k,g k=some r:=by
 obtain⟨K,h⟩:=h;exact⟨K,h K (Nat.le_refl _)⟩
theorem Ev.bind{α β:Type}{g:Nat->Option α}{f:Nat->α->Option β}{a:α}{r:β}(h:Ev g a)(k:Ev (fun n=>f n a) r):Ev (fun n=>(g n).bind (f n)) r:=by
 obtain⟨K,h⟩:=h;obtain⟨K',k⟩:=k;refine⟨max K K',fun n hn=>?_⟩;have h1:=h n (by omega);have h2:=k n (by omega);simp only[h1,Option.bind_some];exact h2
theorem Ev.step{α:Type}{g f:Nat->Option α}{r:α}(h: ∀k,g (k+1)=f k)(k:Ev f r):Ev g r:=by
 obtain⟨K,k⟩:=k;refine⟨K+1,fun n hn=>?_⟩;obtain⟨m,rfl⟩: ∃m,n=m+1:=⟨n-1,by omega⟩
 rw[h];exact k m (by omega)
theorem Ev.congr{α:Type}{g f:Nat->Option α}{r:α}(h: ∀k,g k=f k)(k:Ev f r):Ev g r:=by
 obtain⟨K,k⟩:=k;exact⟨K,fun n hn=>(h n).trans (k n hn)⟩
section
variable {P:Program} {ops:Array Oper} {o:Oper} {a:Act} {Q:Exit->Act->World->Prop} {K:Act->World->Prop}
theorem step_append_cells{w0 W:World}(base:Nat)(hw:Region.wanted o (yielded ops a.tmps)=true)(s x:Operand)(t e:TypeId)(z:Value)(size bytes:Nat)
 (ho:o.op= .call { callee:= .builtin .append,args:= #[s,x],argTypes:= #[t,t] })
 (ht:P.underlying t=some (.slice e)) (hinfo:(P.info? e).map (fun i=>(i.zero,i.size,i.bytes))=some (some z,size,bytes)) (hz:z.cells.size=size) (hs0:0<size) (hb0:0<bytes)
 (v:Value) (n:Nat) (xs ys:List Value) (hs:a.eval s=v) (hx:a.eval x= .slice (some ⟨W.heap.size,0,none⟩) 1 1) (hys:ys.length=size) (h1: ∀u∈ys,u.oneCell'=true)
 (HO:W.ownsRow base e size v n xs) (HB:Below base w0 W) (hbase:base<=W.heap.size) (hl:(n+1)*bytes<=140737488355328)
 (h: ∀v1 w1,w1.ownsRow base e size v1 (n+1) (xs++ys)->Below base w0 w1->W.grownBy w1 v.ownBlock->(v1.ownBlock=v.ownBlock∨ ∃b,v1.ownBlock=some b/\W.heap.size<=b)->K (a.put o.dst v1) w1):
 if Region.wanted o (yielded ops a.tmps)=true then Oper.wp P o a (W.alloc (.cells ys.toArray e)) K Q else K (a.put o.dst undef) (W.alloc (.cells ys.toArray e)):=by
 obtain⟨i0,hi,hzz⟩:=Option.map_eq_some_iff.1 hinfo;simp only[Prod.mk.injEq]at hzz;obtain⟨hz0,hz1,hz2⟩:=hzz;have hlen:n+1<=140737488355328:=Nat.le_trans (Nat.le_mul_of_pos_right _ hb0) hl;rw[if_pos hw]
 obtain⟨v1,w1,hr,hown,hg,_,hat⟩:=run_append_own_at (P:=P) (W.alloc (.cells ys.toArray e)) base t o.type e i0 z size bytes ht hi hz0 hz1 hz2 hz hs0 v n xs (HO.alloc _) ⟨W.heap.size,0,none⟩ 1 1 ys (by rw[hys];simp)
  (by simpa using World.news_of_block (cs:=ys.toArray) (t:=e) (fr:=(0,0)) (heap_alloc_new W (.cells ys.toArray e))) h1 (by simp only[maxLen];omega) hl (by simp;omega)
 unfold Oper.wp execOp;simp only[ho,resolve,invoke,builtin,Sem.run_bind,Sem.run_pure,Result.andThen_ok,List.map_toArray,List.map_cons,List.map_nil,hs,hx,hr];refine h v1 w1 hown ((HB.alloc hbase _).grown hg (by simp;omega) (own_base HO)) (World.grownBy.trans (World.grownBy_alloc W _ _) hg) ?_;rcases hat with hat|hat
 ·exact .inl hat
 ·exact .inr ⟨_,hat,by simp⟩
end
theorem own_weaken{w:World}{base base':Nat}{e:TypeId}{size n:Nat}{v:Value}{xs:List Value}(h:w.ownsRow base e size v n xs)(hb:base'<=base):w.ownsRow base' e size v n xs:=by
 obtain⟨h1,h2⟩:=h;refine⟨h1,?_⟩;rcases h2 with h2|⟨g,cap,cur,rfl,hg,r⟩
 ·exact .inl h2
 ·exact .inr ⟨g,cap,cur,rfl,Nat.le_trans hb hg,r⟩
section
variable {α:Type} {enc:α->Value} {d:α}
def encs(enc:α->Value)(xs:List α):List Value:=xs.map enc
def rdOf(d:α)(xs:List α)(i:Int):α:=xs.getD i.toNat d
theorem encs_length(xs:List α):(encs enc xs).length=xs.length:=by simp[encs]
theorem encs_get(xs:List α)(j:Nat)(h:j<xs.length):(encs enc xs)[j]? =some (enc (xs.getD j d)):=by
 simp[encs,List.getElem?_eq_getElem h,List.getD_eq_getElem?_getD]
def ReadsOf(enc:α->Value)(d:α)(w:World)(A:Option Addr)(n:Nat)(xs:List α):Prop:=
 xs.length=n/\n<=9223372036854775807/\(0<n-> ∃ad,A=some ad/\ ∀j,j<n->w.cell? (ad.add j)=some (enc (xs.getD j d)))
theorem ReadsOf.at_{w:World}{A:Option Addr}{n:Nat}{xs:List α}(h:ReadsOf enc d w A n xs)(i:Int)(h0:0<=i)(h1:i<n): ∃ad,A=some ad/\w.cell? (ad.add i.toNat)=some (enc (rdOf d xs i)):=by
 obtain⟨ad,e,hc⟩:=h.2.2 (by omega);exact⟨ad,e,hc _ (by omega)⟩
theorem ReadsOf.below{w w1:World}{A:Option Addr}{n:Nat}{xs:List α}(h:ReadsOf enc d w A n xs)(hb:Below w.heap.size w w1):ReadsOf enc d w1 A n xs:=
 ⟨h.1,h.2.1,fun hn=>by
  obtain⟨ad,e,hc⟩:=h.2.2 hn;exact⟨ad,e,fun j hj=>pw_cell_below hb (hc j hj)⟩⟩
theorem ReadsOf.take_{w:World}{A:Option Addr}{n:Nat}{xs:List α}(h:ReadsOf enc d w A n xs)(i:Nat)(hi:i<=n):ReadsOf enc d w A i (xs.take i):=by
 refine⟨by rw[List.length_take,h.1];omega,by have:=h.2.1;omega,fun hp=>?_⟩;obtain⟨ad,e,hc⟩:=h.2.2 (by omega);refine⟨ad,e,fun j hj=>?_⟩;rw[hc j (by omega)];simp[List.getD_eq_getElem?_getD,hj]
theorem own_at_of{W:World}{base g n cap:Nat}{e:TypeId}{xs:List α}(h:W.ownsRow base e 1 (.slice (some ⟨g,0,none⟩) n cap) n (encs enc xs))(i:Int)(h0:0<=i)(h1:i<n):
 W.cell? ⟨g,i.toNat,none⟩=some (enc (rdOf d xs i))/\W.frozen? ⟨g,i.toNat,none⟩=false:=by
 have hl:xs.length=n:=by have:=h.1;simp[encs]at this;exact this
 constructor
 ·have hc:=h.cells (g:=g) rfl i.toNat _ (encs_get (d:=d) xs i.toNat (by omega))
  rwa [add_plain]at hc
 ·rcases h.2 with⟨h',_⟩|⟨g',cap',cur,h',_,hh,_⟩
  ·cases h'
  ·have:g=g':=by injection h' with h';injection h' with h';injection h' with h'
   subst this;simp[World.frozen?,hh]
theorem own_store_of{W:World}{base g n cap:Nat}{e:TypeId}{xs:List α}(h:W.ownsRow base e 1 (.slice (some ⟨g,0,none⟩) n cap) n (encs enc xs))(i:Int)(x:α):
 (W.setCell ⟨g,i.toNat,none⟩ (enc x)).ownsRow base e 1 (.slice (some ⟨g,0,none⟩) n cap) n (encs enc (xs.set i.toNat x))/\W.grownBy (W.setCell ⟨g,i.toNat,none⟩ (enc x)) (some g):=by
 have hs:=h.stored i.toNat (enc x);have he:(encs enc xs).set i.toNat (enc x)=encs enc (xs.set i.toNat x):=by simp[encs,List.map_set]
 rwa [he]at hs
end
theorem blk_alloc{w:World}{g:Nat}{o:Obj}(h:w.heap[g]? =some o)(o':Obj):(w.alloc o').heap[g]? =some o:=(Below.heap_alloc w o' g (blk_lt h)).trans h
theorem blk_drew{w:World}{g:Nat}{o:Obj}(h:w.heap[g]? =some o):w.drew.heap[g]? =some o:=h
theorem blk_drewN{w:World}{g:Nat}{o:Obj}(h:w.heap[g]? =some o)(n:Nat):(w.drewN n).heap[g]? =some o:=h
theorem blk_below{w w1:World}{g:Nat}{o:Obj}(h:w.heap[g]? =some o)(hb:Below w.heap.size w w1):w1.heap[g]? =some o:=(hb.block g (blk_lt h)).trans h
theorem blk_new(w:World)(o:Obj):(w.alloc o).heap[w.heap.size]? =some o:=heap_alloc_new w o
section
variable {P:Program}
theorem results_ct{fn:Func}{p u:Tmp}{ty:TypeId}(h:fn.results= #[.cell p ty,.tmp u])(tmps:Array Value)(w:World)(g:Nat)(t:TypeId)(cs:Array Value)(fr:Nat×Nat)(d:TypeDesc)
 (hp:tmps.getD p undef= .pointer (some ⟨g,0,none⟩)) (hg:w.heap[g]? =some (.cells cs t fr))
 (hu:P.underlying ty=some d) (hd:(match d with| .struct _| .array _ _=>true|_=>false)=true) (hi:(P.info? ty).map (·.size)=some cs.size):
 (results fn tmps).run P w= .ok (.tuple #[.agg cs,tmps.getD u undef]) w:=by
 have hp':tmps[p]?.getD undef= .pointer (some ⟨g,0,none⟩):=by simpa using hp
 simp[results,h,hp',asAddr,run_loadVar_row w g t ty cs fr d hg hu hd hi]
theorem results_ctt{fn:Func}{p u v:Tmp}{ty:TypeId}(h:fn.results= #[.cell p ty,.tmp u,.tmp v])(tmps:Array Value)(w:World)(g:Nat)(t:TypeId)(cs:Array Value)(fr:Nat×Nat)(d:TypeDesc)
 (hp:tmps.getD p undef= .pointer (some ⟨g,0,none⟩)) (hg:w.heap[g]? =some (.cells cs t fr))
 (hu:P.underlying ty=some d) (hd:(match d with| .struct _| .array _ _=>true|_=>false)=true) (hi:(P.info? ty).map (·.size)=some cs.size):
 (results fn tmps).run P w= .ok (.tuple #[.agg cs,tmps.getD u undef,tmps.getD v undef]) w:=by
 have hp':tmps[p]?.getD undef= .pointer (some ⟨g,0,none⟩):=by simpa using hp
 simp[results,h,hp',asAddr,run_loadVar_row w g t ty cs fr d hg hu hd hi]
end
theorem own_le{w:World}{base n m c size:Nat}{e:TypeId}{A:Option Addr}{xs:List Value}(h:w.ownsRow base e size (.slice A m c) n xs):m<=c:=by
 rcases h.2 with⟨he,_⟩|⟨g,cap,cur,he,_,_,hnc,_⟩
 ·injection he with _ h2 h3;omega
 ·injection he with _ h2 h3;omega
def OwnRow{α:Type}(R:α->List Value->Prop)(e:TypeId)(size:Nat)(w:World)(base:Nat)(v:Value)(ps:List α):Prop:=
 ∃inner,w.ownsRow base e size v ps.length inner/\Reps R size ps inner
section
variable {α:Type} {R R':α->List Value->Prop} {e:TypeId} {size:Nat} {w w1:World} {base:Nat} {v:Value} {ps:List α}
theorem OwnRow.none_(R:α->List Value->Prop)(e:TypeId)(size:Nat)(w:World)(base:Nat):OwnRow R e size w base (.slice none 0 0) []:=⟨[],own_nil _ _ _ _,Reps.none _ _⟩
theorem OwnRow.imp_(h:OwnRow R e size w base v ps)(hR: ∀p c,R p c->R' p c):OwnRow R' e size w base v ps:=by
 obtain⟨inner,ho,hr⟩:=h;exact⟨inner,ho,hr.imp_ hR⟩
theorem OwnRow.below(h:OwnRow R e size w base v ps)(hb:Below w.heap.size w w1):OwnRow R e size w1 base v ps:=by
 obtain⟨inner,ho,hr⟩:=h;exact⟨inner,pw_own_below ho hb,hr⟩
theorem OwnRow.other(h:OwnRow R e size w base v ps){row:Option Nat}(hg:w.grownBy w1 row)(hne:v.ownBlock=none∨v.ownBlock≠row):OwnRow R e size w1 base v ps:=by
 obtain⟨inner,ho,hr⟩:=h;exact⟨inner,own_other ho hg hne,hr⟩
theorem OwnRow.keep(h:OwnRow R e size w base v ps){g:Nat}{t:TypeId}{cells:Array Value}(hb:w.heap[g]? =some (.cells cells t (0,0)))(ht:e≠t)(hk:KeepBut w w1 g none):OwnRow R e size w1 base v ps:=by
 obtain⟨inner,ho,hr⟩:=h;exact⟨inner,hk.own ho (Ne.symm (own_ne ho hb ht)) (by cases v.ownBlock<;>simp),hr⟩
theorem OwnRow.reads(h:OwnRow R e size w base v ps): ∃A c,v= .slice A ps.length c/\ps.length<=c/\ReadsRow R size w A ps.length ps:=by
 obtain⟨inner,ho,hr⟩:=h;obtain⟨A,c,rfl,hrow⟩:=own_reads_row ho hr rfl;exact⟨A,c,rfl,own_le ho,hrow⟩
theorem OwnRow.ne_block(h:OwnRow R e size w base v ps){g:Nat}{t:TypeId}{cells:Array Value}(hb:w.heap[g]? =some (.cells cells t (0,0)))(ht:e≠t):some g≠v.ownBlock:=by
 obtain⟨inner,ho,hr⟩:=h;exact own_ne ho hb ht
theorem OwnRow.lit(W:World)(base:Nat){inner:List Value}(hr:Reps R size ps inner)(hb:base<=W.heap.size)(hm:ps.length<=9223372036854775807):
 OwnRow R e size (W.alloc (.cells inner.toArray e)) base (.slice (some ⟨W.heap.size,0,none⟩) ps.length ps.length) ps:=by
 have h:=World.ownsRow_lit (base:=base) (e:=e) (size:=size) W inner.toArray ps.length hb (by simpa[maxLen]using hm) (by simpa using hr.1);exact⟨inner,by simpa using h,hr⟩
end
section
variable {P:Program} {ops:Array Oper} {rest:List Oper} {o:Oper} {a:Act} {Q:Exit->Act->World->Prop} {α:Type} {R:α->List Value->Prop}
theorem OwnRow.append{w0 W:World}(base:Nat)(hgd:o.guard=none)(s x:Operand)(t e:TypeId)(z:Value)(size bytes:Nat)
 (ho:o.op= .call { callee:= .builtin .append,args:= #[s,x],argTypes:= #[t,t] })
 (ht:P.underlying t=some (.slice e)) (hinfo:(P.info? e).map (fun i=>(i.zero,i.size,i.bytes))=some (some z,size,bytes)) (hz:z.cells.size=size) (hs0:0<size) (hb0:0<bytes)
 (v:Value) (ps:List α) (p:α) (cs:List Value) (hs:a.eval s=v) (hx:a.eval x= .slice (some ⟨W.heap.size,0,none⟩) 1 1) (hp:R p cs) (hcs:cs.length=size) (h1: ∀u∈cs,u.oneCell'=true)
 (HO:OwnRow R e size W base v ps) (HB:Below base w0 W) (hbase:base<=W.heap.size) (hl:(ps.length+1)*bytes<=140737488355328)
 (h: ∀v1 w1,OwnRow R e size w1 base v1 (ps++ [p])->Below base w0 w1->W.grownBy w1 v.ownBlock->(v1.ownBlock=v.ownBlock∨ ∃b,v1.ownBlock=some b/\W.heap.size<=b)->wpList P ops Q rest (a.put o.dst v1) w1):
 wpList P ops Q (o::rest) a (W.alloc (.cells cs.toArray e)):=by
 obtain⟨inner,hown,hr⟩:=HO;refine print_append_cells base hgd s x t e z size bytes ho ht hinfo hz hs0 hb0 v ps.length inner cs hs hx hcs h1 hown HB hbase hl ?_;intro v1 w1 hown1 hb1 hg1 hat1;exact h v1 w1 ⟨inner++cs,by rw[List.length_append,List.length_singleton];exact hown1,hr.snoc hp hcs⟩ hb1 hg1 hat1
end
theorem ReadsRow.inner_{α:Type}{R:α->List Value->Prop}{size:Nat}{w:World}{ad:Addr}{n:Nat}{ps:List α}(h:ReadsRow R size w (some ad) n ps):
 ∃inner,Reps R size ps inner/\ ∀j u,inner[j]? =some u->w.cell? (ad.add j)=some u:=by
 have key: ∀m,m<=ps.length-> ∃inner,Reps R size (ps.take m) inner/\ ∀j u,inner[j]? =some u->w.cell? (ad.add j)=some u:=by
  intro m
  induction m with
  |zero=>exact fun _=>⟨[],Reps.none _ _,fun j u hu=>by simp at hu⟩
  |succ m ih=>
   intro hm;obtain⟨inner,hr,hc⟩:=ih (by omega);obtain⟨ad',he,hcell⟩:=h.2.2 (by have:=h.1;omega);injection he with he;subst he;obtain⟨c,hcl,hp,hcc⟩:=hcell m _ (List.getElem?_eq_getElem (show m<ps.length by omega));refine⟨inner++c,?_,fun j u hu=>?_⟩
   ·rw[List.take_succ_eq_append_getElem (show m<ps.length by omega)];exact hr.snoc hp hcl
   ·have hil:inner.length=m*size:=by rw[hr.1,List.length_take,Nat.min_eq_left (by omega)]
    rcases Nat.lt_or_ge j inner.length with hj|hj
    ·rw[List.getElem?_append_left hj]at hu
     exact hc j u hu
    ·rw[List.getElem?_append_right hj]at hu
     have:=hcc (j-inner.length) u hu
     rwa [hil,Nat.add_sub_cancel' (by omega)]at this
 obtain⟨inner,hr,hc⟩:=key ps.length (Nat.le_refl _);rw[List.take_length]at hr
 exact⟨inner,hr,hc⟩
structure Kd (α:Type) where
 sz:Nat
 E:List Nat
 K:World->α->List Value->Prop
 M:World->Nat->(Nat->Prop)->α->List Value->Prop
 K_len: ∀ {w x cs},K w x cs->cs.length=sz
 K_one: ∀ {w x cs},K w x cs-> ∀u∈cs,u.oneCell'=true
 K_below: ∀ {w w1:World} {x cs},Below w.heap.size w w1->K w x cs->K w1 x cs
 K_of_M: ∀ {w base ok x cs},M w base ok x cs->K w x cs
 M_mono: ∀ {w base ok ok' x cs},(∀k,ok k->ok' k)->M w base ok x cs->M w base ok' x cs
 M_bound: ∀ {w:World} {base ok x cs},M w base ok x cs->M w base (fun k=>ok k/\base<=k/\k<w.heap.size/\ ∃q,q∈E/\ ∃cells,w.heap[k]? =some (.cells cells q (0,0))) x cs
 M_move: ∀ {w w1:World} {base ok x cs},(∀k,ok k->w1.heap[k]? =w.heap[k]?)->M w base ok x cs->M w1 base ok x cs
 M_lower: ∀ {w base base' ok x cs},base'<=base->M w base ok x cs->M w base' ok x cs
theorem own_move{w w1:World}{base:Nat}{e:TypeId}{size n:Nat}{v:Value}{xs:List Value}(h:w.ownsRow base e size v n xs)(hm: ∀k,v.ownBlock=some k->w1.heap[k]? =w.heap[k]?):w1.ownsRow base e size v n xs:=by
 obtain⟨h1,h2⟩:=h;refine⟨h1,?_⟩;rcases h2 with h2|⟨g,cap,cur,rfl,hg,hh,r⟩
 ·exact .inl h2
 ·exact .inr ⟨g,cap,cur,rfl,hg,(hm g (by simp[Value.ownBlock])).trans hh,r⟩
theorem own_typed{w:World}{base:Nat}{e:TypeId}{size n:Nat}{v:Value}{xs:List Value}(h:w.ownsRow base e size v n xs)(k:Nat)(hk:v.ownBlock=some k): ∃cells,w.heap[k]? =some (.cells cells e (0,0)):=by
 rcases h.2 with⟨rfl,_⟩|⟨g,cap,cur,rfl,hg,hh,r⟩
 ·simp[Value.ownBlock]at hk
 ·have:g=k:=by simpa[Value.ownBlock]using hk
  subst this;exact⟨cur,hh⟩
namespace Kd
def C{α:Type}(d:Kd α)(w:World)(A:Option Addr)(n:Nat)(xs:List α):Prop:=ReadsRow (d.K w) d.sz w A n xs
def R{α:Type}(d:Kd α)(e:Nat)(w:World)(base:Nat)(ok:Nat->Prop)(v:Value)(xs:List α):Prop:=
 (∀k,v.ownBlock=some k->ok k)/\OwnRow (d.M w base (fun k=>ok k/\some k≠v.ownBlock)) e d.sz w base v xs
section
variable {α:Type} {d:Kd α} {e:Nat} {w w1:World} {base:Nat} {ok ok':Nat->Prop} {v:Value} {xs:List α}
theorem C_below{A:Option Addr}{n:Nat}(h:d.C w A n xs)(hb:Below w.heap.size w w1):d.C w1 A n xs:=ReadsRow.imp_ h hb (fun _ _ hp=>d.K_below hb hp)
theorem R_nil(d:Kd α)(e:Nat)(w:World)(base:Nat)(ok:Nat->Prop):d.R e w base ok (.slice none 0 0) []:=⟨fun k hk=>by simp[Value.ownBlock]at hk,OwnRow.none_ _ _ _ _ _⟩
theorem R_mono(h:d.R e w base ok v xs)(hok: ∀k,ok k->ok' k):d.R e w base ok' v xs:=⟨fun k hk=>hok k (h.1 k hk),h.2.imp_ (fun _ _ hp=>d.M_mono (fun k hk=>⟨hok k hk.1,hk.2⟩) hp)⟩
theorem R_bound(h:d.R e w base ok v xs):d.R e w base (fun k=>ok k/\base<=k/\k<w.heap.size/\ ∃q,q∈e::d.E/\ ∃cells,w.heap[k]? =some (.cells cells q (0,0))) v xs:=by
 obtain⟨h0,inner,ho,hr⟩:=h;refine⟨fun k hk=>?_,inner,ho,hr.imp_ (fun _ _ hp=>d.M_mono (fun k hk=>?_) (d.M_bound hp))⟩
 ·obtain⟨cells,hc⟩:=own_typed ho k hk;exact⟨h0 k hk,own_base ho k hk,own_lt ho k hk,e,List.mem_cons_self,cells,hc⟩
 ·obtain⟨⟨h1,h2⟩,h3,h4,q,hq,hc⟩:=hk;exact⟨⟨h1,h3,h4,q,List.mem_cons_of_mem _ hq,hc⟩,h2⟩
theorem R_move(h:d.R e w base ok v xs)(hm: ∀k,ok k->w1.heap[k]? =w.heap[k]?):d.R e w1 base ok v xs:=by
 obtain⟨h0,inner,ho,hr⟩:=h;exact⟨h0,inner,own_move ho (fun k hk=>hm k (h0 k hk)),hr.imp_ (fun _ _ hp=>d.M_move (fun k hk=>hm k hk.1) hp)⟩
theorem R_lower{base':Nat}(h:d.R e w base ok v xs)(hb:base'<=base):d.R e w base' ok v xs:=by
 obtain⟨h0,inner,ho,hr⟩:=h;exact⟨h0,inner,own_weaken ho hb,hr.imp_ (fun _ _ hp=>d.M_lower hb hp)⟩
theorem R_step(h:d.R e w base ok v xs)(hm: ∀k,ok k->k<w.heap.size->w1.heap[k]? =w.heap[k]?):d.R e w1 base ok v xs:=
 R_mono (R_move (R_bound h) (fun k hk=>hm k hk.1 hk.2.2.1)) (fun _ hk=>hk.1)
theorem M_step{x:α}{cs:List Value}(h:d.M w base ok x cs)(hm: ∀k,ok k->k<w.heap.size->w1.heap[k]? =w.heap[k]?):d.M w1 base ok x cs:=
 d.M_mono (fun _ hk=>hk.1) (d.M_move (fun k hk=>hm k hk.1 hk.2.2.1) (d.M_bound h))
theorem R_below(h:d.R e w base ok v xs)(hb:Below w.heap.size w w1):d.R e w1 base ok v xs:=R_step h (fun k _ hk=>hb.block k hk)
theorem M_below{x:α}{cs:List Value}(h:d.M w base ok x cs)(hb:Below w.heap.size w w1):d.M w1 base ok x cs:=M_step h (fun k _ hk=>hb.block k hk)
theorem R_far(h:d.R e w base ok v xs){p:Addr}(hok: ∀k,ok k->k≠p.block)(u:Value):d.R e (w.setCell p u) base ok v xs:=R_step h (fun k ho _=>Below.heap_setCell w p u k (hok k ho))
theorem R_types(h:d.R e w base ok v xs){g t:Nat}{cells:Array Value}(hb:w.heap[g]? =some (.cells cells t (0,0)))(ht: ∀q,q∈e::d.E->q≠t):d.R e w base (fun k=>ok k/\k≠g) v xs:=
 R_mono (R_bound h) (fun k hk=>⟨hk.1,by
  obtain⟨_,_,_,q,hq,cells',hc⟩:=hk;rintro rfl;rw[hc]at hb
  injection hb with hb;injection hb with _ hb;exact ht q hq hb⟩)
theorem R_reads(h:d.R e w base ok v xs): ∃A c,v= .slice A xs.length c/\xs.length<=c/\d.C w A xs.length xs:=by
 obtain⟨A,c,he,hl,hr⟩:=OwnRow.reads h.2;exact⟨A,c,he,hl,hr.imp_ (Below.refl _ _) (fun _ _ hp=>d.K_of_M hp)⟩
theorem R_slice(h:d.R e w base ok v xs): ∃A c,v= .slice A xs.length c:=by
 obtain⟨A,c,he,_⟩:=R_reads h;exact⟨A,c,he⟩
theorem R_own(h:d.R e w base ok v xs): ∃inner,w.ownsRow base e d.sz v xs.length inner:=by
 obtain⟨_,inner,ho,_⟩:=h;exact⟨inner,ho⟩
theorem R_ne(h:d.R e w base ok v xs){g t:Nat}{cells:Array Value}(hb:w.heap[g]? =some (.cells cells t (0,0)))(ht:e≠t):some g≠v.ownBlock:=OwnRow.ne_block h.2 hb ht
end
def scalar{α:Type}(enc:α->Value)(h1: ∀x,(enc x).oneCell'=true):Kd α where
 sz:=1
 E:= []
 K:=fun _ x cs=>cs= [enc x]
 M:=fun _ _ _ x cs=>cs= [enc x]
 K_len:=fun h=>by rw[h];rfl
 K_one:=fun h u hu=>by
  rw[h]at hu
  rw[List.mem_singleton.1 hu];exact h1 _
 K_below:=fun _ h=>h
 K_of_M:=fun h=>h
 M_mono:=fun _ h=>h
 M_bound:=fun h=>h
 M_move:=fun _ h=>h
 M_lower:=fun _ h=>h
def int(k:IntKind):Kd Int:=scalar (Value.int k) (fun _=>rfl)
def bool:Kd Bool:=scalar Value.bool (fun _=>rfl)
def string:Kd ByteArray:=scalar Value.string (fun _=>rfl)
def slice{α:Type}(e:Nat)(d:Kd α):Kd (List α) where
 sz:=1
 E:=e::d.E
 K:=fun w xs cs=> ∃A c,cs= [.slice A xs.length c]/\xs.length<=c/\d.C w A xs.length xs
 M:=fun w base ok xs cs=> ∃v,cs= [v]/\d.R e w base ok v xs
 K_len:=by
  rintro w x cs ⟨A,c,rfl,_⟩;rfl
 K_one:=by
  rintro w x cs ⟨A,c,rfl,_⟩ u hu;rw[List.mem_singleton.1 hu];rfl
 K_below:=by
  rintro w w1 x cs hb ⟨A,c,rfl,hl,hr⟩;exact⟨A,c,rfl,hl,C_below hr hb⟩
 K_of_M:=by
  rintro w base ok x cs ⟨v,rfl,h⟩;obtain⟨A,c,rfl,hl,hr⟩:=R_reads h;exact⟨A,c,rfl,hl,hr⟩
 M_mono:=by
  rintro w base ok ok' x cs hok ⟨v,rfl,h⟩;exact⟨v,rfl,R_mono h hok⟩
 M_bound:=by
  rintro w base ok x cs ⟨v,rfl,h⟩;exact⟨v,rfl,R_bound h⟩
 M_move:=by
  rintro w w1 base ok x cs hm ⟨v,rfl,h⟩;exact⟨v,rfl,R_move h hm⟩
 M_lower:=by
  rintro w base base' ok x cs hb ⟨v,rfl,h⟩;exact⟨v,rfl,R_lower h hb⟩
def pair{α β:Type}(a:Kd α)(b:Kd β):Kd (α×β) where
 sz:=a.sz+b.sz
 E:=a.E++b.E
 K:=fun w x cs=> ∃c0 c1,cs=c0++c1/\a.K w x.1 c0/\b.K w x.2 c1
 M:=fun w base ok x cs=> ∃c0 c1,cs=c0++c1/\a.M w base ok x.1 c0/\b.M w base ok x.2 c1
 K_len:=by
  rintro w x cs ⟨c0,c1,rfl,h0,h1⟩;rw[List.length_append,a.K_len h0,b.K_len h1]
 K_one:=by
  rintro w x cs ⟨c0,c1,rfl,h0,h1⟩ u hu;rcases List.mem_append.1 hu with hu|hu
  ·exact a.K_one h0 u hu
  ·exact b.K_one h1 u hu
 K_below:=by
  rintro w w1 x cs hb ⟨c0,c1,rfl,h0,h1⟩;exact⟨c0,c1,rfl,a.K_below hb h0,b.K_below hb h1⟩
 K_of_M:=by
  rintro w base ok x cs ⟨c0,c1,rfl,h0,h1⟩;exact⟨c0,c1,rfl,a.K_of_M h0,b.K_of_M h1⟩
 M_mono:=by
  rintro w base ok ok' x cs hok ⟨c0,c1,rfl,h0,h1⟩;exact⟨c0,c1,rfl,a.M_mono hok h0,b.M_mono hok h1⟩
 M_bound:=by
  rintro w base ok x cs ⟨c0,c1,rfl,h0,h1⟩;refine⟨c0,c1,rfl,a.M_mono ?_ (a.M_bound h0),b.M_mono ?_ (b.M_bound h1)⟩
  ·rintro k ⟨h2,h3,h4,q,hq,hc⟩;exact⟨h2,h3,h4,q,List.mem_append_left _ hq,hc⟩
  ·rintro k ⟨h2,h3,h4,q,hq,hc⟩;exact⟨h2,h3,h4,q,List.mem_append_right _ hq,hc⟩
 M_move:=by
  rintro w w1 base ok x cs hm ⟨c0,c1,rfl,h0,h1⟩;exact⟨c0,c1,rfl,a.M_move hm h0,b.M_move hm h1⟩
 M_lower:=by
  rintro w base base' ok x cs hb ⟨c0,c1,rfl,h0,h1⟩;exact⟨c0,c1,rfl,a.M_lower hb h0,b.M_lower hb h1⟩
def iso{α β:Type}(d:Kd α)(f:β->α):Kd β where
 sz:=d.sz
 E:=d.E
 K:=fun w x cs=>d.K w (f x) cs
 M:=fun w base ok x cs=>d.M w base ok (f x) cs
 K_len:=d.K_len
 K_one:=d.K_one
 K_below:=d.K_below
 K_of_M:=d.K_of_M
 M_mono:=d.M_mono
 M_bound:=d.M_bound
 M_move:=d.M_move
 M_lower:=d.M_lower
def bot{α:Type}(sz:Nat)(E:List Nat):Kd α where
 sz:=sz
 E:=E
 K:=fun _ _ _=>False
 M:=fun _ _ _ _ _=>False
 K_len:=fun h=>h.elim
 K_one:=fun h=>h.elim
 K_below:=fun _ h=>h
 K_of_M:=fun h=>h
 M_mono:=fun _ h=>h
 M_bound:=fun h=>h
 M_move:=fun _ h=>h
 M_lower:=fun _ h=>h
def upto{α:Type}(F:Kd α->Kd α)(sz:Nat)(E:List Nat):Nat->Kd α
 |0=>bot sz E
 |n+1=>F (upto F sz E n)
theorem C_get{α:Type}{d:Kd α}{w:World}{A:Option Addr}{n:Nat}{xs:List α}(h:d.C w A n xs)(z:α)(i:Int)(h0:0<=i)(h1:i<n):
 ∃ad c,A=some ad/\c.length=d.sz/\d.K w (xs.getD i.toNat z) c/\ ∀j u,c[j]? =some u->w.cell? (ad.add (i.toNat*d.sz+j))=some u:=ReadsRow.get_ h z i h0 h1
theorem R_appended{α:Type}{d:Kd α}{e base:Nat}{ok okp:Nat->Prop}{W w1:World}{v v1:Value}{xs:List α}{p:α}{inner cs:List Value}(h0: ∀k,v.ownBlock=some k->ok k)(hr:Reps (d.M W base (fun k=>ok k/\some k≠v.ownBlock)) d.sz xs inner)(hp:d.M W base okp p cs)(hokp: ∀k,okp k->ok k/\some k≠v.ownBlock)(hfresh: ∀k,W.heap.size<=k->ok k)
 (hown:w1.ownsRow base e d.sz v1 (xs.length+1) (inner++cs)) (hg:W.grownBy w1 v.ownBlock) (hat:v1.ownBlock=v.ownBlock∨ ∃b,v1.ownBlock=some b/\W.heap.size<=b):d.R e w1 base ok v1 (xs++ [p]):=by
 have hne: ∀k,some k≠v.ownBlock->k<W.heap.size->some k≠v1.ownBlock:=by
  intro k hk hlt;rcases hat with hat|⟨b,hb,hle⟩
  ·rw[hat];exact hk
  ·rw[hb];intro he;injection he with he;omega
 have step: ∀ {q:α} {c:List Value} {o:Nat->Prop},d.M W base o q c->(∀k,o k->ok k/\some k≠v.ownBlock)->d.M w1 base (fun k=>ok k/\some k≠v1.ownBlock) q c:=by
  intro q c o hq ho;have h1:=d.M_move (w1:=w1) (fun k hk=>hg.block k hk.2.2.1 (ho k hk.1).2) (d.M_bound hq);exact d.M_mono (fun k hk=>⟨(ho k hk.1).1,hne k (ho k hk.1).2 hk.2.2.1⟩) h1
 refine⟨fun k hk=>?_,inner++cs,by rw[List.length_append,List.length_singleton];exact hown,?_⟩
 ·rcases hat with hat|⟨b,hb,hle⟩
  ·exact h0 k (hat▸hk)
  ·rw[hb]at hk
   injection hk with hk;exact hfresh k (by omega)
 ·exact(hr.imp_ (fun _ _ hq=>step hq (fun _ hk=>hk))).snoc (step hp hokp) (d.K_len (d.K_of_M hp))
section
variable {P:Program} {ops:Array Oper} {rest:List Oper} {o:Oper} {a:Act} {Q:Exit->Act->World->Prop} {α:Type}
theorem R_append(d:Kd α){w0 W:World}(base:Nat)(hgd:o.guard=none)(s x:Operand)(t e:TypeId)(z:Value)(bytes:Nat)
 (ho:o.op= .call { callee:= .builtin .append,args:= #[s,x],argTypes:= #[t,t] })
 (ht:P.underlying t=some (.slice e)) (hinfo:(P.info? e).map (fun i=>(i.zero,i.size,i.bytes))=some (some z,d.sz,bytes)) (hz:z.cells.size=d.sz) (hs0:0<d.sz) (hb0:0<bytes)
 (v:Value) (xs:List α) (p:α) (cs:List Value) (ok okp:Nat->Prop) (hs:a.eval s=v) (hx:a.eval x= .slice (some ⟨W.heap.size,0,none⟩) 1 1) (hp:d.M W base okp p cs) (hokp: ∀k,okp k->ok k/\some k≠v.ownBlock) (hfresh: ∀k,W.heap.size<=k->ok k)
 (HO:d.R e W base ok v xs) (HB:Below base w0 W) (hbase:base<=W.heap.size) (hl:(xs.length+1)*bytes<=140737488355328)
 (h: ∀v1 w1,d.R e w1 base ok v1 (xs++ [p])->Below base w0 w1->W.grownBy w1 v.ownBlock->(v1.ownBlock=v.ownBlock∨ ∃b,v1.ownBlock=some b/\W.heap.size<=b)->wpList P ops Q rest (a.put o.dst v1) w1):
 wpList P ops Q (o::rest) a (W.alloc (.cells cs.toArray e)):=by
 obtain⟨h0,inner,hown,hr⟩:=HO;refine print_append_cells base hgd s x t e z d.sz bytes ho ht hinfo hz hs0 hb0 v xs.length inner cs hs hx (d.K_len (d.K_of_M hp)) (d.K_one (d.K_of_M hp)) hown HB hbase hl ?_;intro v1 w1 hown1 hb1 hg1 hat1;exact h v1 w1 (R_appended h0 hr hp hokp hfresh hown1 hg1 hat1) hb1 hg1 hat1
end
section
variable {P:Program} {ops:Array Oper} {o:Oper} {a:Act} {Q:Exit->Act->World->Prop} {Kc:Act->World->Prop} {α:Type}
theorem R_append_step(d:Kd α){w0 W:World}(base:Nat)(hw:Region.wanted o (yielded ops a.tmps)=true)(s x:Operand)(t e:TypeId)(z:Value)(bytes:Nat)
 (ho:o.op= .call { callee:= .builtin .append,args:= #[s,x],argTypes:= #[t,t] })
 (ht:P.underlying t=some (.slice e)) (hinfo:(P.info? e).map (fun i=>(i.zero,i.size,i.bytes))=some (some z,d.sz,bytes)) (hz:z.cells.size=d.sz) (hs0:0<d.sz) (hb0:0<bytes)
 (v:Value) (xs:List α) (p:α) (cs:List Value) (ok okp:Nat->Prop) (hs:a.eval s=v) (hx:a.eval x= .slice (some ⟨W.heap.size,0,none⟩) 1 1) (hp:d.M W base okp p cs) (hokp: ∀k,okp k->ok k/\some k≠v.ownBlock) (hfresh: ∀k,W.heap.size<=k->ok k)
 (HO:d.R e W base ok v xs) (HB:Below base w0 W) (hbase:base<=W.heap.size) (hl:(xs.length+1)*bytes<=140737488355328)
 (h: ∀v1 w1,d.R e w1 base ok v1 (xs++ [p])->Below base w0 w1->W.grownBy w1 v.ownBlock->(v1.ownBlock=v.ownBlock∨ ∃b,v1.ownBlock=some b/\W.heap.size<=b)->Kc (a.put o.dst v1) w1):
 if Region.wanted o (yielded ops a.tmps)=true then Oper.wp P o a (W.alloc (.cells cs.toArray e)) Kc Q else Kc (a.put o.dst undef) (W.alloc (.cells cs.toArray e)):=by
 obtain⟨h0,inner,hown,hr⟩:=HO;refine step_append_cells base hw s x t e z d.sz bytes ho ht hinfo hz hs0 hb0 v xs.length inner cs hs hx (d.K_len (d.K_of_M hp)) (d.K_one (d.K_of_M hp)) hown HB hbase hl ?_;intro v1 w1 hown1 hb1 hg1 hat1;exact h v1 w1 (R_appended h0 hr hp hokp hfresh hown1 hg1 hat1) hb1 hg1 hat1
end
theorem reps_scalar{α:Type}{enc:α->Value}(xs:List α):Reps (fun(x:α) (cs:List Value)=>cs= [enc x]) 1 xs (encs enc xs):=by
 refine⟨by simp[encs],fun j p hj=>?_⟩;obtain⟨hl,hp⟩:=List.getElem?_eq_some_iff.1 hj;have hl':j<(encs enc xs).length:=by rw[encs_length];exact hl
 rw[Nat.mul_one,List.drop_eq_getElem_cons hl'];simp[encs,hp]
theorem R_of_own{α:Type}{enc:α->Value}{h1: ∀x,(enc x).oneCell'=true}{e:Nat}{w:World}{base:Nat}{ok:Nat->Prop}{v:Value}{xs:List α}(ho:w.ownsRow base e 1 v xs.length (encs enc xs))(hok: ∀k,v.ownBlock=some k->ok k):(scalar enc h1).R e w base ok v xs:=⟨hok,encs enc xs,ho,reps_scalar xs⟩
theorem own_of_R{α:Type}{enc:α->Value}{h1: ∀x,(enc x).oneCell'=true}{e:Nat}{w:World}{base:Nat}{ok:Nat->Prop}{v:Value}{xs:List α}(h:(scalar enc h1).R e w base ok v xs):w.ownsRow base e 1 v xs.length (encs enc xs):=by
 obtain⟨_,inner,ho,hr⟩:=h;have:inner=encs enc xs:=by
  apply List.ext_getElem?;intro j;rcases Nat.lt_or_ge j xs.length with hj|hj
  ·have h2:=hr.2 j _ (List.getElem?_eq_getElem hj);have hl:j<inner.length:=by have:=hr.1;simp[scalar]at this;omega
   have h3:(inner.drop (j*1)).take 1= [enc xs[j]]:=h2;rw[Nat.mul_one,List.drop_eq_getElem_cons hl]at h3
   have h4:inner[j] =enc xs[j]:=by
    have h5:=congrArg List.head? h3;rw[List.take_succ_cons]at h5
    exact Option.some.inj h5
   rw[List.getElem?_eq_getElem hl,h4];simp[encs,List.getElem?_eq_getElem hj]
  ·have h3:inner.length=xs.length:=by have:=hr.1;simp[scalar]at this;omega
   rw[List.getElem?_eq_none (by omega),List.getElem?_eq_none (by rw[encs_length];omega)]
 rw[<-this];exact ho
theorem C_of_reads{α:Type}{enc:α->Value}{d:α}{h1: ∀x,(enc x).oneCell'=true}{w:World}{A:Option Addr}{n:Nat}{xs:List α}(h:ReadsOf enc d w A n xs):(scalar enc h1).C w A n xs:=by
 refine⟨h.1,h.2.1,fun hn=>?_⟩;obtain⟨ad,e,hc⟩:=h.2.2 hn;refine⟨ad,e,fun j p hj=>⟨[enc p],rfl,rfl,fun i u hu=>?_⟩⟩;obtain⟨hl,hp⟩:=List.getElem?_eq_some_iff.1 hj;have h2:=hc j (by have:=h.1;omega);rw[List.getD_eq_getElem?_getD,hj]at h2
 cases i with
 |zero=>
  have:enc p=u:=by simpa using hu
  subst this;simpa[scalar]using h2
 |succ i=>simp at hu
theorem reads_of_C{α:Type}{enc:α->Value}{d:α}{h1: ∀x,(enc x).oneCell'=true}{w:World}{A:Option Addr}{n:Nat}{xs:List α}(h:(scalar enc h1).C w A n xs):ReadsOf enc d w A n xs:=by
 refine⟨h.1,h.2.1,fun hn=>?_⟩;obtain⟨ad,e,hc⟩:=h.2.2 hn;refine⟨ad,e,fun j hj=>?_⟩;have hl:j<xs.length:=by have:=h.1;omega
 obtain⟨c,_,hK,hcell⟩:=hc j _ (List.getElem?_eq_getElem hl);have hK':c= [enc xs[j]]:=hK;subst hK';have:=hcell 0 _ rfl;simpa[scalar,List.getD_eq_getElem?_getD,List.getElem?_eq_getElem hl]using this
structure Mono {α β:Type} (F:Kd α->Kd β):Prop where
 sz: ∀d d':Kd α,d.sz=d'.sz->(F d).sz=(F d').sz
 K: ∀d d':Kd α,d.sz=d'.sz->(∀w x cs,d.K w x cs->d'.K w x cs)-> ∀w x cs,(F d).K w x cs->(F d').K w x cs
 M: ∀d d':Kd α,d.sz=d'.sz->(∀w base ok x cs,d.M w base ok x cs->d'.M w base ok x cs)-> ∀w base ok x cs,(F d).M w base ok x cs->(F d').M w base ok x cs
section
variable {α:Type} {F:Kd α->Kd α} {sz:Nat} {E:List Nat} {hs: ∀n,(upto F sz E n).sz=sz} {hE: ∀n q,q∈(upto F sz E n).E->q∈E}
theorem bounded{P:Nat->Nat->Prop}(hP: ∀n m j,n<=m->P n j->P m j): ∀m,(∀j,j<m-> ∃n,P n j)-> ∃N,∀j,j<m->P N j
 |0,_=>⟨0,fun j hj=>absurd hj (Nat.not_lt_zero j)⟩
 |m+1,h=>by
  obtain⟨N,hN⟩:=bounded hP m (fun j hj=>h j (by omega));obtain⟨n,hn⟩:=h m (by omega);refine⟨max N n,fun j hj=>?_⟩;rcases Nat.lt_or_ge j m with hj'|hj'
  ·exact hP N _ j (Nat.le_max_left _ _) (hN j hj')
  ·have:j=m:=by omega
   subst this;exact hP n _ j (Nat.le_max_right _ _) hn
end
theorem R_after{α:Type}{d:Kd α}{e base:Nat}{ok:Nat->Prop}{W w1:World}{u v v1:Value}{xs:List α}(h:d.R e W base (fun k=>ok k/\some k≠v.ownBlock) u xs)(hg:W.grownBy w1 v.ownBlock)(hat:v1.ownBlock=v.ownBlock∨ ∃b,v1.ownBlock=some b/\W.heap.size<=b):d.R e w1 base (fun k=>ok k/\some k≠v1.ownBlock) u xs:=by
 refine R_mono (R_move (R_bound h) (fun k hk=>hg.block k hk.2.2.1 hk.1.2)) (fun k hk=>⟨hk.1.1,?_⟩);rcases hat with hat|⟨b,hb,hle⟩
 ·rw[hat];exact hk.1.2
 ·rw[hb];intro he;injection he with he;have:=hk.2.2.1;omega
theorem M_row{α:Type}{d:Kd α}{e base:Nat}{ok:Nat->Prop}{w:World}{v:Value}{xs:List α}(h:d.R e w base ok v xs):(slice e d).M w base ok xs [v]:=⟨v,rfl,h⟩
section
variable {α β:Type} {d:Kd α} {d':Kd β} {e e':Nat} {w w1 W:World} {base b b':Nat} {ok ok' okv oku:Nat->Prop} {v u:Value} {xs:List α} {ys:List β}
theorem R_alloc(h:d.R e w base ok v xs)(o:Obj):d.R e (w.alloc o) base ok v xs:=R_below h (below_alloc (Below.refl _ _) o)
theorem R_drew(h:d.R e w base ok v xs):d.R e w.drew base ok v xs:=R_below h (below_drew (Below.refl _ _))
theorem R_drewN(h:d.R e w base ok v xs)(m:Nat):d.R e (w.drewN m) base ok v xs:=R_below h (pw_below_drewN (Below.refl _ _) m)
theorem C_alloc{A:Option Addr}{n:Nat}(h:d.C w A n xs)(o:Obj):d.C (w.alloc o) A n xs:=C_below h (below_alloc (Below.refl _ _) o)
theorem C_drew{A:Option Addr}{n:Nat}(h:d.C w A n xs):d.C w.drew A n xs:=C_below h (below_drew (Below.refl _ _))
theorem C_drewN{A:Option Addr}{n:Nat}(h:d.C w A n xs)(m:Nat):d.C (w.drewN m) A n xs:=C_below h (pw_below_drewN (Below.refl _ _) m)
theorem C_nil(d:Kd α)(w:World):d.C w none ([]:List α).length []:=⟨rfl,by simp,fun h=>absurd h (Nat.lt_irrefl 0)⟩
theorem R_reads'{A:Option Addr}{n c:Nat}(h:d.R e w base ok (.slice A n c) xs):n=xs.length/\n<=c/\d.C w A xs.length xs:=by
 obtain⟨A',c',he,hl,hr⟩:=R_reads h;injection he with h1 h2 h3;subst h1;exact⟨h2,by omega,hr⟩
theorem R_lt(h:d.R e w base ok v xs): ∀k,v.ownBlock=some k->k<w.heap.size:=by
 obtain⟨inner,ho⟩:=R_own h;exact own_lt ho
theorem R_base(h:d.R e w base ok v xs): ∀k,v.ownBlock=some k->base<=k:=by
 obtain⟨inner,ho⟩:=R_own h;exact own_base ho
theorem R_away(h:d.R e w base ok v xs){g:Nat}(hok: ∀k,ok k->k≠g):some g≠v.ownBlock:=fun e=>hok g (h.1 g e.symm) rfl
theorem R_form(h:d.R e w base ok v xs)(hp:0<xs.length): ∃g cap,v= .slice (some ⟨g,0,none⟩) xs.length cap/\base<=g/\g<w.heap.size/\ ∃cells,w.heap[g]? =some (.cells cells e (0,0)):=by
 obtain⟨inner,ho⟩:=R_own h;obtain⟨g,cap,he,hb,hl⟩:=ho.form hp;obtain⟨cells,hc⟩:=own_typed ho g (by rw[he];simp[Value.ownBlock]);exact⟨g,cap,he,hb,hl,cells,hc⟩
end
section
variable {w W:World} {A:Option Addr} {n:Nat}
theorem at_int{k:IntKind}{xs:List Int}(h:(Kd.int k).C w A n xs)(i:Int)(h0:0<=i)(h1:i<n): ∃ad,A=some ad/\w.cell? (ad.add i.toNat)=some (.int k (rd xs i)):=
 ReadsOf.at_ (reads_of_C (enc:=Value.int k) (d:=(0:Int)) (h1:=fun _=>rfl) h) i h0 h1
variable {α:Type} {enc:α->Value} {h1: ∀x,(enc x).oneCell'=true} {e base g cap:Nat} {ok:Nat->Prop} {xs:List α}
theorem R_cell(d:α)(h:(scalar enc h1).R e W base ok (.slice (some ⟨g,0,none⟩) xs.length cap) xs)(i:Int)(h0:0<=i)(hi:i<xs.length):W.cell? ⟨g,i.toNat,none⟩=some (enc (rdOf d xs i))/\W.frozen? ⟨g,i.toNat,none⟩=false:=own_at_of (own_of_R h) i h0 hi
theorem R_put(h:(scalar enc h1).R e W base ok (.slice (some ⟨g,0,none⟩) xs.length cap) xs)(i:Int)(x:α):(scalar enc h1).R e (W.setCell ⟨g,i.toNat,none⟩ (enc x)) base ok (.slice (some ⟨g,0,none⟩) xs.length cap) (xs.set i.toNat x)/\W.grownBy (W.setCell ⟨g,i.toNat,none⟩ (enc x)) (some g):=by
 obtain⟨ho,hg⟩:=own_store_of (own_of_R h) i x;exact⟨R_of_own (by rw[List.length_set];exact ho) h.1,hg⟩
end
section
variable {P:Program} {ops:Array Oper} {rest:List Oper} {o:Oper} {a:Act} {Q:Exit->Act->World->Prop}
theorem event_run{W w1:World}{v:Value}(hgd:o.guard=none)(hrun:(execOp a.eval o).run P W= .ok (.value v) w1)(h:wpList P ops Q rest (a.put o.dst v) w1):wpList P ops Q (o::rest) a W:=by
 refine wpList_plain hgd fun K hK=>?_;unfold Oper.wp;rw[hrun];exact hK _ _ h
variable {α:Type}
theorem R_lit(d:Kd α){w0 W:World}(base e:Nat)(hgd:o.guard=none){N:Tmp}(_hd:o.dst=some N){xs:List α}{inner:List Value}{ok okp:Nat->Prop}
 (hrun:(execOp a.eval o).run P W= .ok (.value (.slice (some ⟨W.heap.size,0,none⟩) xs.length xs.length)) (W.alloc (.cells inner.toArray e)))
 (hrep:Reps (d.M W base okp) d.sz xs inner) (hok: ∀k,okp k->ok k) (hfresh:ok W.heap.size) (HB:Below base w0 W) (hbase:base<=W.heap.size) (hm:xs.length<=9223372036854775807)
 (h: ∀v1 w1,d.R e w1 base ok v1 xs->Below base w0 w1->W.grownBy w1 none->(∃b,v1.ownBlock=some b/\W.heap.size<=b)->wpList P ops Q rest (a.put o.dst v1) w1):wpList P ops Q (o::rest) a W:=by
 refine event_run hgd hrun (h _ _ ⟨fun k hk=>?_,inner,?_,?_⟩ (HB.alloc hbase _) (World.grownBy_alloc W _ none) ⟨W.heap.size,by simp[Value.ownBlock],Nat.le_refl _⟩)
 ·have:W.heap.size=k:=by simpa[Value.ownBlock]using hk
  subst this;exact hfresh
 ·have h2:=World.ownsRow_lit (base:=base) (e:=e) (size:=d.sz) W inner.toArray xs.length hbase (by simpa[maxLen]using hm) (by simpa using hrep.1);simpa using h2
 ·refine hrep.imp_ (fun p c hp=>d.M_mono (fun k hk=>⟨hok k hk.1,fun he=>?_⟩) (M_below (d.M_bound hp) (below_alloc (Below.refl _ _) _)));have h3:k=W.heap.size:=by simpa[Value.ownBlock]using he
  have:=hk.2.2.1;omega
theorem reps_made{α:Type}{R:α->List Value->Prop}{z:Value}{size:Nat}{z0:α}(hz:z.cells.size=size)(hs:0<size)(h0:R z0 z.cells.toList)(m:Nat):Reps R size (List.replicate m z0) (madeCells z.cells (m*size)).toList:=by
 refine⟨by simp[size_madeCells],fun j p hj=>?_⟩;obtain⟨hjl,hp⟩:=List.getElem?_eq_some_iff.1 hj;have hjm:j<m:=by simpa using hjl
 have hp':z0=p:=by simpa using hp
 subst hp';have hle:j*size+size<=m*size:=by rw[<-Nat.succ_mul];exact Nat.mul_le_mul_right _ hjm
 have:((madeCells z.cells (m*size)).toList.drop (j*size)).take size=z.cells.toList:=by
  apply List.ext_getElem
  ·simp[size_madeCells,hz];omega
  ·intro i h1 h2;have hi:i<size:=by rw[Array.length_toList,hz]at h2;exact h2
   have hmod:(j*size+i) % size=i:=by
    rw[Nat.mul_comm,Nat.mul_add_mod];exact Nat.mod_eq_of_lt hi
   simp[madeCells,hz,hmod];rw[getElem!_pos z.cells i (by omega)]
 rw[this];exact h0
theorem R_make(d:Kd α){w0 W:World}(base e:Nat)(hgd:o.guard=none){N:Tmp}(hd:o.dst=some N)(t:TypeId)(x y:Operand)(ho:o.op= .makeSlice t x y)(n:Int)(hx:a.eval x= .int .i64 n)(hy:a.eval y= .int .i64 n)
 (ht:P.underlying t=some (.slice e)) (z:Value) (bytes:Nat) (hinfo:(P.info? e).map (fun i=>(i.zero,i.size,i.bytes))=some (some z,d.sz,bytes)) (hz:z.cells.size=d.sz) (hs0:0<d.sz) (hb0:0<bytes)
 (z0:α) {ok okp:Nat->Prop} (hzero:d.M W base okp z0 z.cells.toList) (hok: ∀k,okp k->ok k) (hfresh:ok W.heap.size) (h0:0<=n) (hl:n.toNat*bytes<=281474976710656) (HB:Below base w0 W) (hbase:base<=W.heap.size)
 (h: ∀v1 w1,d.R e w1 base ok v1 (List.replicate n.toNat z0)->Below base w0 w1->W.grownBy w1 none->(∃b,v1.ownBlock=some b/\W.heap.size<=b)->wpList P ops Q rest (a.put o.dst v1) w1):wpList P ops Q (o::rest) a W:=by
 obtain⟨m,rfl⟩:=Int.eq_ofNat_of_zero_le h0;simp only[Int.toNat_natCast]at hl h;obtain⟨i0,hi,hzz⟩:=Option.map_eq_some_iff.1 hinfo;simp only[Prod.mk.injEq]at hzz;obtain⟨hz0,hz1,hz2⟩:=hzz;have hm:m<=281474976710656:=Nat.le_trans (Nat.le_mul_of_pos_right _ hb0) hl
 have hr:=run_make (P:=P) W t e i0 z ht hi hz0 .i64 .i64 (m:Int) (m:Int) (by omega) (by omega)
  (by
    have h3:((i0.bytes*m:Nat):Int)<=281474976710656:=by rw[hz2,Nat.mul_comm];omega
    rwa [Int.natCast_mul]at h3) (by omega)
 simp only[Int.toNat_natCast]at hr;rw[hz1]at hr
 refine R_lit d base e hgd hd (xs:=List.replicate m z0) (inner:=(madeCells z.cells (m*d.sz)).toList) (okp:=okp) (ok:=ok) ?_ (reps_made hz hs0 hzero m) hok hfresh HB hbase (by simp;omega) h;simp[execOp,ho,hx,hy,hr]
end
end Kd
section
variable {P:Program}
theorem cut_to(t e:TypeId)(kh:IntKind){i:TypeInfo}(ht:P.underlying t=some (.slice e))(hi:P.info? e=some i)(A:Option Addr)(n c:Nat)(j:Int)(h0:0<=j)(hm:j<=n)(hc:n<=c):
 ∀W:World,(Instr.slice t (.slice A n c) none (some (.int kh j)) none).run P W= .ok (.slice A j.toNat c) W:=by
 intro W;have hel:P.elem t=e:=by simp[Program.elem,ht]
 have hu:P.underlying t=some (.slice (P.elem t)):=by rw[hel];exact ht
 have ha:(A.map fun x=>x.add 0)=A:=by cases A<;>simp[Addr.add]
 rw[run_slice_h W t A n c hu kh j h0 (by omega),hel];simp[sizeOf,typeInfo,hi,sliced,Result.andThen,ha]
theorem cut_from(t e:TypeId)(kl:IntKind){i:TypeInfo}(ht:P.underlying t=some (.slice e))(hi:P.info? e=some i)(size:Nat)(hsz:i.size=size)(A:Option Addr)(n c:Nat)(j:Int)(h0:0<=j)(hm:j<=n):
 ∀W:World,(Instr.slice t (.slice A n c) (some (.int kl j)) none none).run P W= .ok (.slice (if c=j.toNat then A else A.map (·.add (j.toNat*size))) (n-j.toNat) (c-j.toNat)) W:=by
 intro W;have hel:P.elem t=e:=by simp[Program.elem,ht]
 have hu:P.underlying t=some (.slice (P.elem t)):=by rw[hel];exact ht
 rw[run_slice_l W t A n c hu kl j h0 hm,hel];simp[sizeOf,typeInfo,hi,hsz,sliced,Result.andThen]
end
def QRow(w:World)(base:Nat)(e:TypeId)(size:Nat)(v:Value)(n:Nat)(xs:List Value):Prop:=
 xs.length=n*size/\
 ((n=0/\ ∃A,v= .slice A 0 0/\ ∀a,A=some a->base<=a.block/\ ∃cur,w.heap[a.block]? =some (.cells cur e (0,0)))∨
  ∃g off cap cur,v= .slice (some ⟨g,off*size,none⟩) n cap/\base<=g/\w.heap[g]? =some (.cells cur e (0,0))/\n<=cap/\off+cap<=maxLen/\cur.size=(off+cap)*size/\(cur.toList.drop (off*size)).take (n*size)=xs)
section
variable {w w1:World} {base n size:Nat} {e:TypeId} {v:Value} {xs:List Value}
theorem q_of_own(h:w.ownsRow base e size v n xs):QRow w base e size v n xs:=by
 obtain⟨h1,h2⟩:=h;refine⟨h1,?_⟩;rcases h2 with⟨rfl,h0⟩|⟨g,cap,cur,rfl,hb,hh,hnc,hcm,hcs,ht⟩
 ·exact .inl ⟨h0,none,rfl,fun a ha=>by cases ha⟩
 ·exact .inr ⟨g,0,cap,cur,by rw[Nat.zero_mul],hb,hh,hnc,by rw[Nat.zero_add];exact hcm,by rw[Nat.zero_add];exact hcs,by rw[Nat.zero_mul,List.drop_zero];exact ht⟩
theorem add_at(g o j:Nat):(⟨g,o,none⟩:Addr).add j=⟨g,o+j,none⟩:=by unfold Addr.add;split<;>simp_all
theorem setCells_far{g:Nat} : ∀(vs:List Value) (o:Nat) {w:World} (k:Nat),k≠g->(w.setCells g o vs).heap[k]? =w.heap[k]?
 | [],_,_,_,_=>rfl
 |v::r,o,w,k,hk=>by
  rw[World.setCells,setCells_far r (o+1) k hk];exact Below.heap_setCell w ⟨g,o,none⟩ v k hk
theorem setCells_same(g:Nat): ∀(vs:List Value) (o:Nat) (w:World),(w.setCells g o vs).os=w.os/\(w.setCells g o vs).tape=w.tape/\(w.setCells g o vs).output=w.output/\(w.setCells g o vs).heap.size=w.heap.size
 | [],_,_=>⟨rfl,rfl,rfl,rfl⟩
 |v::r,o,w=>by
  obtain⟨h1,h2,h3,h4⟩:=setCells_same g r (o+1) (w.setCell ⟨g,o,none⟩ v);rw[World.setCells];exact⟨h1,h2,h3,by rw[h4];simp[World.setCell]⟩
theorem setCells_row{g:Nat}{e:TypeId} : ∀(vs:List Value) (o:Nat) (w:World) (cur:Array Value),w.heap[g]? =some (.cells cur e (0,0))->o+vs.length<=cur.size->
 ∃cur',(w.setCells g o vs).heap[g]? =some (.cells cur' e (0,0))/\cur'.size=cur.size/\cur'.toList=cur.toList.take o++vs++cur.toList.drop (o+vs.length)
 | [],o,w,cur,h,_=>⟨cur,h,rfl,by simp⟩
 |v::r,o,w,cur,h,hl=>by
  have h2:=blk_set h o v;simp only[List.length_cons]at hl;obtain⟨cur',h3,h4,h5⟩:=setCells_row r (o+1) (w.setCell ⟨g,o,none⟩ v) _ h2 (by simp;omega);refine⟨cur',h3,by rw[h4];simp,?_⟩;rw[h5,Array.toList_setIfInBounds];have ho:o<cur.toList.length:=by rw[Array.length_toList];omega
  rw[List.take_set,List.drop_set_of_lt (by omega)];simp only[List.length_cons];rw[show o+1+r.length=o+(r.length+1)by omega]
  congr 1
  rw[List.take_succ_eq_append_getElem ho,List.set_append_right _ _ (by rw[List.length_take];omega)];have ho':o<cur.size:=by omega
  simp[Nat.min_eq_left (Nat.le_of_lt ho')]
end
namespace Kd
def Q{α:Type}(d:Kd α)(e:Nat)(w:World)(base:Nat)(ok:Nat->Prop)(v:Value)(xs:List α):Prop:=
 (∀k,v.ownBlock=some k->ok k)/\ ∃inner,QRow w base e d.sz v xs.length inner/\Reps (d.M w base (fun k=>ok k/\some k≠v.ownBlock)) d.sz xs inner
section
variable {α:Type} {d:Kd α} {e:Nat} {w w1 W:World} {base:Nat} {ok ok':Nat->Prop} {v:Value} {xs:List α}
theorem Q_of_R(h:d.R e w base ok v xs):d.Q e w base ok v xs:=by
 obtain⟨h0,inner,ho,hr⟩:=h;exact⟨h0,inner,q_of_own ho,hr⟩
theorem Q_nil(d:Kd α)(e:Nat)(w:World)(base:Nat)(ok:Nat->Prop):d.Q e w base ok (.slice none 0 0) []:=Q_of_R (R_nil d e w base ok)
end
section
variable {α:Type} {d:Kd α} {e e':Nat} {w w1 W:World} {base:Nat} {ok:Nat->Prop} {u v:Value} {xs:List α}
theorem R_typed(h:d.R e w base ok v xs): ∀k,v.ownBlock=some k-> ∃cells,w.heap[k]? =some (.cells cells e (0,0)):=by
 obtain⟨inner,ho⟩:=R_own h;exact fun k hk=>own_typed ho k hk
theorem R_over'(h:d.R e W base ok u xs)(hty: ∀k,v.ownBlock=some k-> ∃cells,W.heap[k]? =some (.cells cells e' (0,0)))(ht: ∀q,q∈e::d.E->q≠e')(hg:W.grownBy w1 v.ownBlock):d.R e w1 base ok u xs:=by
 refine R_mono (R_move (R_bound h) (fun k hk=>hg.block k hk.2.2.1 (fun he=>?_))) (fun _ hk=>hk.1);obtain⟨_,_,_,q,hq,cells,hc⟩:=hk;obtain⟨cells',hc'⟩:=hty k he.symm;rw[hc]at hc'
 injection hc' with hc';injection hc' with _ hc';exact ht q hq hc'
theorem R_apart'(h:d.R e W base ok u xs)(hty: ∀k,v.ownBlock=some k-> ∃cells,W.heap[k]? =some (.cells cells e' (0,0)))(ht: ∀q,q∈e::d.E->q≠e'):d.R e W base (fun k=>ok k/\some k≠v.ownBlock) u xs:=by
 refine R_mono (R_bound h) (fun k hk=>⟨hk.1,fun he=>?_⟩);obtain⟨_,_,_,q,hq,cells,hc⟩:=hk;obtain⟨cells',hc'⟩:=hty k he.symm;rw[hc]at hc'
 injection hc' with hc';injection hc' with _ hc';exact ht q hq hc'
theorem R_elder'(hu:d.R e W base ok u xs)(hbase: ∀k,v.ownBlock=some k->W.heap.size<=k)(hb:Below W.heap.size W w1):d.R e w1 base (fun k=>ok k/\some k≠v.ownBlock) u xs:=
 R_mono (R_move (R_bound hu) (fun k hk=>hb.block k hk.2.2.1)) (fun k hk=>⟨hk.1,fun he=>by have:=hbase k he.symm;have:=hk.2.2.1;omega⟩)
theorem R_new'(h:d.R e w1 W.heap.size ok v xs)(hlt: ∀k,u.ownBlock=some k->k<W.heap.size):d.R e w1 W.heap.size (fun k=>ok k/\some k≠u.ownBlock) v xs:=
 R_mono (R_bound h) (fun k hk=>⟨hk.1,fun he=>by have:=hlt k he.symm;have:=hk.2.1;omega⟩)
theorem fresh'(hlt: ∀k,u.ownBlock=some k->k<W.heap.size): ∀k,W.heap.size<=k->some k≠u.ownBlock:=fun k hk he=>by have:=hlt k he.symm;omega
end
end Kd
theorem seg_get{α:Type}(a seg:List α)(o:Nat)(h:o+seg.length<=a.length)(q:Nat):
 (a.take o++seg++a.drop (o+seg.length))[q]? =if q<o then a[q]? else if q<o+seg.length then seg[q-o]? else a[q]? :=by
 have hl:(a.take o).length=o:=by rw[List.length_take];omega
 rw[List.append_assoc];by_cases h1:q<o
 ·rw[if_pos h1,List.getElem?_append_left (by omega),List.getElem?_take,if_pos h1]
 rw[if_neg h1,List.getElem?_append_right (by omega),hl];by_cases h2:q<o+seg.length
 ·rw[if_pos h2,List.getElem?_append_left (by omega)]
 rw[if_neg h2,List.getElem?_append_right (by omega),List.getElem?_drop]
 congr 1
 omega
namespace Kd
section
variable {α:Type} {d:Kd α} {e base g n cap:Nat} {ok okp:Nat->Prop} {W:World} {xs:List α}
theorem R_elem(h:d.R e W base ok (.slice (some ⟨g,0,none⟩) n cap) xs)(z:α)(i:Int)(h0:0<=i)(h1:i<n):
 ∃c,c.length=d.sz/\d.M W base (fun k=>ok k/\k≠g) (xs.getD i.toNat z) c/\(∀j u,c[j]? =some u->W.cell? ⟨g,i.toNat*d.sz+j,none⟩=some u)/\ ∀j,W.frozen? ⟨g,i.toNat*d.sz+j,none⟩=false:=by
 obtain⟨hn,hnc,hC⟩:=R_reads' h;obtain⟨_,inner,ho,hr⟩:=h;have hil:i.toNat<xs.length:=by omega
 have hseg:i.toNat*d.sz+d.sz<=inner.length:=by rw[hr.1,<-Nat.succ_mul];exact Nat.mul_le_mul_right _ hil
 have hM:=hr.2 i.toNat _ (List.getElem?_eq_getElem hil);refine⟨(inner.drop (i.toNat*d.sz)).take d.sz,by rw[List.length_take,List.length_drop];omega,?_,fun j u hu=>?_,fun j=>?_⟩
 ·rw[List.getD_eq_getElem?_getD,List.getElem?_eq_getElem hil];exact d.M_mono (fun k hk=>⟨hk.1,fun he=>hk.2 (by rw[he];simp[Value.ownBlock])⟩) hM
 ·rw[List.getElem?_take]at hu
  split at hu
  ·rw[List.getElem?_drop]at hu
   have:=ho.cells (g:=g) (by simp[Value.ownBlock]) _ u hu
   rwa [add_plain]at this
  ·cases hu
 ·obtain⟨cells,hc⟩:=own_typed ho g (by simp[Value.ownBlock]);exact blk_frozen hc _
theorem R_seg(h:d.R e W base ok (.slice (some ⟨g,0,none⟩) n cap) xs)(i:Int)(h0:0<=i)(h1:i<n){c seg:List Value}{j:Nat}(hcl:c.length=d.sz)(hcc: ∀j u,c[j]? =some u->W.cell? ⟨g,i.toNat*d.sz+j,none⟩=some u)
 (hj:j+seg.length<=d.sz) {x':α} (hM:d.M W base okp x' (c.take j++seg++c.drop (j+seg.length))) (hokp: ∀k,okp k->ok k/\k≠g):
 d.R e (W.setCells g (i.toNat*d.sz+j) seg) base ok (.slice (some ⟨g,0,none⟩) n cap) (xs.set i.toNat x')/\W.grownBy (W.setCells g (i.toNat*d.sz+j) seg) (some g):=by
 obtain⟨hn,hnc,_⟩:=R_reads' h;obtain⟨hok,inner,ho,hr⟩:=h;have hil:i.toNat<xs.length:=by omega
 have hseg:i.toNat*d.sz+d.sz<=inner.length:=by rw[hr.1,<-Nat.succ_mul];exact Nat.mul_le_mul_right _ hil
 have hin:inner.length=n*d.sz:=by rw[hr.1,hn]
 obtain⟨ho1,ho2⟩:=ho;rcases ho2 with⟨hv,_⟩|⟨g',cap',cur,hv,hb,hh,hnc',hcm,hcs,ht⟩
 ·cases hv
 injection hv with ha _ hc;injection ha with ha;injection ha with hg;subst hg;subst hc;have hfit:i.toNat*d.sz+j+seg.length<=cur.size:=by
  have:n*d.sz<=cap*d.sz:=Nat.mul_le_mul_right _ hnc;omega
 obtain⟨cur',h3,h4,h5⟩:=setCells_row seg (i.toNat*d.sz+j) W cur hh hfit;obtain⟨s1,s2,s3,s4⟩:=setCells_same g seg (i.toNat*d.sz+j) W;have hfar: ∀k,k≠g->(W.setCells g (i.toNat*d.sz+j) seg).heap[k]? =W.heap[k]? :=fun k hk=>setCells_far seg _ k hk;have hcin: ∀q,q<d.sz->c[q]? =inner[i.toNat*d.sz+q]? :=by
  intro q hq;have hq':q<c.length:=by omega
  have h6:=hcc q _ (List.getElem?_eq_getElem hq');rw[cell_of_row W g _ cur e (0,0) hh]at h6
  rw[List.getElem?_eq_getElem hq',<-h6,<-ht,List.getElem?_take,if_pos (by rw[<-hn];omega),Array.getElem?_toList]
 refine⟨⟨hok,inner.take (i.toNat*d.sz+j)++seg++inner.drop (i.toNat*d.sz+j+seg.length),⟨?_,.inr ⟨g,cap,cur',by rw[List.length_set,hn],hb,h3,by rw[List.length_set,<-hn];exact hnc,hcm,by rw[h4,hcs],?_⟩⟩,?_⟩,
  ⟨s1,s2,s3,by rw[s4];exact Nat.le_refl _,fun k _ hk=>hfar k (fun he=>hk (by rw[he]))⟩⟩
 ·rw[List.length_set];simp only[List.length_append,List.length_take,List.length_drop];rw[hr.1]at hseg⊢
  omega
 ·rw[List.length_set,<-hn];apply List.ext_getElem?;intro q;rw[List.getElem?_take,h5];rw[seg_get cur.toList seg (i.toNat*d.sz+j) (by rw[Array.length_toList];omega) q,seg_get inner seg (i.toNat*d.sz+j) (by omega) q];have hcur: ∀q,q<n*d.sz->cur.toList[q]? =inner[q]? :=by
   intro q hq;rw[<-ht,List.getElem?_take,if_pos (by rw[<-hn];exact hq)]
  by_cases hq:q<n*d.sz
  case neg=>rw[if_neg hq,if_neg (by omega),if_neg (by omega),List.getElem?_eq_none (by omega)]
  rw[if_pos hq,hcur q hq]
 ·refine⟨?_,fun m p hm=>?_⟩
  ·rw[List.length_set];simp only[List.length_append,List.length_take,List.length_drop];rw[hr.1]at hseg⊢
   omega
  ·have hml:m<xs.length:=by
    have:=(List.getElem?_eq_some_iff.1 hm).1
    rwa [List.length_set]at this
   have hmfit:m*d.sz+d.sz<=inner.length:=by rw[hr.1,<-Nat.succ_mul];exact Nat.mul_le_mul_right _ hml
   have hgo:some g=(Value.slice (some ⟨g,0,none⟩) n cap).ownBlock:=by simp[Value.ownBlock]
   by_cases hmi:m=i.toNat
   case neg=>
    rw[List.getElem?_set_ne (by omega)]at hm
    have hold:=hr.2 m p hm;have hcells:((inner.take (i.toNat*d.sz+j)++seg++inner.drop (i.toNat*d.sz+j+seg.length)).drop (m*d.sz)).take d.sz=(inner.drop (m*d.sz)).take d.sz:=by
     apply List.ext_getElem?;intro q;rw[List.getElem?_take,List.getElem?_take,List.getElem?_drop,List.getElem?_drop,seg_get inner seg _ (by omega)];by_cases hq:q<d.sz
     case neg=>rw[if_neg hq,if_neg hq]
     rw[if_pos hq,if_pos hq];rcases Nat.lt_or_gt_of_ne hmi with hlt|hgt
     ·have:m*d.sz+d.sz<=i.toNat*d.sz:=by rw[<-Nat.succ_mul];exact Nat.mul_le_mul_right _ hlt
      rw[if_pos (by omega)]
     ·have:i.toNat*d.sz+d.sz<=m*d.sz:=by rw[<-Nat.succ_mul];exact Nat.mul_le_mul_right _ hgt
      rw[if_neg (by omega),if_neg (by omega)]
    rw[hcells];refine d.M_move (fun k hk=>hfar k (fun he=>hk.2 (by rw[he];exact hgo))) hold
   subst hmi;rw[List.getElem?_set_self (by omega)]at hm
   injection hm with hm;subst hm;have hcells:((inner.take (i.toNat*d.sz+j)++seg++inner.drop (i.toNat*d.sz+j+seg.length)).drop (i.toNat*d.sz)).take d.sz=c.take j++seg++c.drop (j+seg.length):=by
    apply List.ext_getElem?;intro q;rw[List.getElem?_take,List.getElem?_drop,seg_get inner seg _ (by omega),seg_get c seg j (by omega) q];by_cases hq:q<d.sz
    case neg=>rw[if_neg hq,if_neg (by omega),if_neg (by omega),List.getElem?_eq_none (by omega)]
    rw[if_pos hq,hcin q hq];by_cases hq1:q<j
    ·rw[if_pos (by omega),if_pos hq1]
    rw[if_neg (by omega),if_neg hq1];by_cases hq2:q<j+seg.length
    case neg=>rw[if_neg (by omega),if_neg hq2]
    rw[if_pos (by omega),if_pos hq2]
    congr 1
    omega
   rw[hcells];refine d.M_mono (fun k hk=>?_) (d.M_move (w1:=W.setCells g (i.toNat*d.sz+j) seg) (fun k hk=>hfar k (hokp k hk).2) hM);exact⟨(hokp k hk).1,fun he=>(hokp k hk).2 (by rw[<-hgo]at he;injection he)⟩
end
theorem reps_append{α:Type}{R:α->List Value->Prop}{size:Nat}{ps qs:List α}{cs ds:List Value}(h:Reps R size ps cs)(h':Reps R size qs ds):Reps R size (ps++qs) (cs++ds):=by
 refine⟨by rw[List.length_append,List.length_append,h.1,h'.1,Nat.add_mul],fun j p hj=>?_⟩;rcases Nat.lt_or_ge j ps.length with hlt|hge
 ·rw[List.getElem?_append_left hlt]at hj
  have hle:j*size+size<=cs.length:=by rw[h.1,<-Nat.succ_mul];exact Nat.mul_le_mul_right _ hlt
  rw[List.drop_append_of_le_length (by omega),List.take_append_of_le_length (by rw[List.length_drop];omega)];exact h.2 j p hj
 ·rw[List.getElem?_append_right hge]at hj
  have h2:=h'.2 (j-ps.length) p hj;have hle:ps.length*size<=j*size:=Nat.mul_le_mul_right _ hge;rw[List.drop_append,List.drop_eq_nil_of_le (by rw[h.1];exact hle),List.nil_append,h.1,<-Nat.sub_mul];exact h2
section
variable {P:Program} {ops:Array Oper} {rest:List Oper} {o:Oper} {a:Act} {Q:Exit->Act->World->Prop} {α:Type}
theorem R_append_rows(d:Kd α){Rr:α->List Value->Prop}{w0 W:World}(base:Nat)(hgd:o.guard=none)(s x:Operand)(t e:TypeId)(z:Value)(bytes:Nat)
 (ho:o.op= .call { callee:= .builtin .append,args:= #[s,x],argTypes:= #[t,t] })
 (ht:P.underlying t=some (.slice e)) (hinfo:(P.info? e).map (fun i=>(i.zero,i.size,i.bytes))=some (some z,d.sz,bytes)) (hz:z.cells.size=d.sz) (hs0:0<d.sz) (hb0:0<bytes)
 (v:Value) (xs ys:List α) (A:Option Addr) (m c:Nat) (ok okp:Nat->Prop) (hs:a.eval s=v) (hx:a.eval x= .slice A m c)
 (HO:d.R e W base ok v xs) (HR:ReadsRow Rr d.sz W A m ys) (hKM: ∀x cs,Rr x cs->d.M W base okp x cs) (hokp: ∀k,okp k->ok k/\some k≠v.ownBlock) (hfresh: ∀k,W.heap.size<=k->ok k)
 (HB:Below base w0 W) (hbase:base<=W.heap.size) (hl:(xs.length+m)*bytes<=140737488355328)
 (h: ∀v1 w1,d.R e w1 base ok v1 (xs++ys)->Below base w0 w1->W.grownBy w1 v.ownBlock->(v1.ownBlock=v.ownBlock∨ ∃b,v1.ownBlock=some b/\W.heap.size<=b)->wpList P ops Q rest (a.put o.dst v1) w1):
 wpList P ops Q (o::rest) a W:=by
 obtain⟨i0,hi,hzz⟩:=Option.map_eq_some_iff.1 hinfo;simp only[Prod.mk.injEq]at hzz;obtain⟨hz0,hz1,hz2⟩:=hzz;have hm:ys.length=m:=HR.1;have hlen:xs.length+m<=140737488355328:=Nat.le_trans (Nat.le_mul_of_pos_right _ hb0) hl;obtain⟨hok,inner,hown,hr⟩:=HO;have hrun: ∃v1 w1,(Builtin.append_ #[t,t] o.type #[v,.slice A m c]).run P W= .ok v1 w1/\d.R e w1 base ok v1 (xs++ys)/\W.grownBy w1 v.ownBlock/\(v1.ownBlock=v.ownBlock∨ ∃b,v1.ownBlock=some b/\W.heap.size<=b):=by
  rcases A with _|ad
  ·have h0:m=0:=by
    rcases Nat.eq_zero_or_pos m with h0|h0
    ·exact h0
    ·obtain⟨ad,h,_⟩:=HR.2.2 h0
     cases h
   subst h0;obtain rfl:ys= []:=List.eq_nil_of_length_eq_zero hm;refine⟨v,W,?_,by rw[List.append_nil];exact⟨hok,inner,hown,hr⟩,World.grownBy.refl W _,.inl rfl⟩;rcases hown.2 with⟨rfl,hn⟩|⟨g,cap,cur,rfl,_,_,hnc,_⟩
   ·simp[Builtin.append_,run_underlying ht,sizeOf,typeInfo,hi,Builtin.lenOf,Builtin.firstCells]
   ·simp[Builtin.append_,run_underlying ht,sizeOf,typeInfo,hi,Builtin.lenOf,Builtin.firstCells,hnc,storeCells]
  ·obtain⟨news,hnr,hnc⟩:=ReadsRow.inner_ HR;have hnM:Reps (d.M W base okp) d.sz ys news:=hnr.imp_ (fun p c hp=>hKM p c hp);have hone: ∀u∈news,u.oneCell'=true:=by
    intro u hu;obtain⟨q,hq,rfl⟩:=List.mem_iff_getElem.1 hu;have hql:q / d.sz<ys.length:=by
     rw[Nat.div_lt_iff_lt_mul hs0];rw[<-hnM.1];exact hq
    have hc:=hnM.2 (q / d.sz) _ (List.getElem?_eq_getElem hql);refine d.K_one (d.K_of_M hc) _ ?_;rw[List.mem_iff_getElem?];refine⟨q % d.sz,?_⟩;rw[List.getElem?_take,if_pos (Nat.mod_lt _ hs0),List.getElem?_drop,Nat.mul_comm,Nat.div_add_mod,List.getElem?_eq_getElem hq]
   obtain⟨v1,w1,hrun,h2,hg,_,hat⟩:=run_append_own_at (P:=P) W base t o.type e i0 z d.sz bytes ht hi hz0 hz1 hz2 hz hs0 v xs.length inner hown ad m c news (by rw[hnM.1,hm]) hnc hone (by simp only[maxLen];omega) hl hbase;have hat':v1.ownBlock=v.ownBlock∨ ∃b,v1.ownBlock=some b/\W.heap.size<=b:=by
    rcases hat with hat|hat
    ·exact .inl hat
    ·exact .inr ⟨_,hat,Nat.le_refl _⟩
   have hne: ∀k,some k≠v.ownBlock->k<W.heap.size->some k≠v1.ownBlock:=by
    intro k hk hlt;rcases hat' with hat|⟨b,hb,hle⟩
    ·rw[hat];exact hk
    ·rw[hb];intro he;injection he with he;omega
   have step: ∀ {q:α} {c:List Value} {o:Nat->Prop},d.M W base o q c->(∀k,o k->ok k/\some k≠v.ownBlock)->d.M w1 base (fun k=>ok k/\some k≠v1.ownBlock) q c:=by
    intro q c o hq ho;have h1:=d.M_move (w1:=w1) (fun k hk=>hg.block k hk.2.2.1 (ho k hk.1).2) (d.M_bound hq);exact d.M_mono (fun k hk=>⟨(ho k hk.1).1,hne k (ho k hk.1).2 hk.2.2.1⟩) h1
   refine⟨v1,w1,hrun,⟨fun k hk=>?_,inner++news,by rw[List.length_append,hm];exact h2,reps_append (hr.imp_ (fun _ _ hq=>step hq (fun _ hk=>hk))) (hnM.imp_ (fun _ _ hq=>step hq hokp))⟩,hg,hat'⟩;rcases hat' with hat|⟨b,hb,hle⟩
   ·exact hok k (hat▸hk)
   ·rw[hb]at hk
    injection hk with hk;exact hfresh k (by omega)
 obtain⟨v1,w1,hr1,h1,hg,hat⟩:=hrun;refine wpList_plain hgd fun K hK=>?_;unfold Oper.wp execOp;simp only[ho,resolve,invoke,builtin,Sem.run_bind,Sem.run_pure,Result.andThen_ok,List.map_toArray,List.map_cons,List.map_nil,hs,hx,hr1];exact hK _ _ (h v1 w1 h1 (HB.grown hg hbase (own_base hown)) hg hat)
end
end Kd
theorem add_add(a:Addr)(i j:Nat):(a.add i).add j=a.add (i+j):=by
 unfold Addr.add;by_cases h1:i=0<;>by_cases h2:j=0<;>simp[h1,h2,Nat.add_assoc]
namespace Kd
section
variable {α:Type} {k:Kd α} {w:World} {A:Option Addr} {xs:List α} {m c:Nat}
theorem C_take(h:k.C w A xs.length xs)(hm:m<=xs.length):k.C w A (xs.take m).length (xs.take m):=by
 have hl:(xs.take m).length=m:=by rw[List.length_take];omega
 refine⟨rfl,by rw[hl];have:=h.2.1;omega,fun hp=>?_⟩;obtain⟨ad,e,hc⟩:=h.2.2 (by omega);refine⟨ad,e,fun j p hj=>hc j p ?_⟩;rw[List.getElem?_take]at hj
 split at hj
 ·exact hj
 ·cases hj
theorem C_drop(h:k.C w A xs.length xs)(hm:m<=xs.length)(hc:xs.length<=c):k.C w (if c=m then A else A.map (·.add (m*k.sz))) (xs.drop m).length (xs.drop m):=by
 have hl:(xs.drop m).length=xs.length-m:=List.length_drop;refine⟨rfl,by rw[hl];have:=h.2.1;omega,fun hp=>?_⟩;rw[hl]at hp
 obtain⟨ad,rfl,hcell⟩:=h.2.2 (by omega);rw[if_neg (by omega)];refine⟨ad.add (m*k.sz),rfl,fun j p hj=>?_⟩;rw[List.getElem?_drop]at hj
 obtain⟨cs,h1,h2,h3⟩:=hcell (m+j) p hj;refine⟨cs,h1,h2,fun i u hu=>?_⟩;rw[add_add,show m*k.sz+(j*k.sz+i)=(m+j)*k.sz+i by rw[Nat.add_mul];omega];exact h3 i u hu
end
end Kd
section
variable {P:Program}
theorem cut_mid(t e:TypeId)(kl kh:IntKind){i:TypeInfo}(ht:P.underlying t=some (.slice e))(hi:P.info? e=some i)(size:Nat)(hsz:i.size=size)(A:Option Addr)(n c:Nat)(lo hi':Int)(h0:0<=lo)(h1:lo<=hi')(h2:hi'<=n)(hc:n<=c):
 ∀W:World,(Instr.slice t (.slice A n c) (some (.int kl lo)) (some (.int kh hi')) none).run P W= .ok (.slice (if c=lo.toNat then A else A.map (·.add (lo.toNat*size))) (hi'.toNat-lo.toNat) (c-lo.toNat)) W:=by
 intro W;have hel:P.elem t=e:=by simp[Program.elem,ht]
 have hu:P.underlying t=some (.slice (P.elem t)):=by rw[hel];exact ht
 rw[run_slice_lh W t A n c hu kl kh lo hi' h0 h1 (by omega),hel];simp[sizeOf,typeInfo,hi,hsz,sliced,Result.andThen]
end
theorem below_size{w W:World}(h:Below w.heap.size w W):w.heap.size<=W.heap.size:=h.size
theorem below_step{w W w2:World}(h:Below w.heap.size w W)(k:Below W.heap.size W w2):Below w.heap.size w w2:=below_then h h.size k
theorem pw_own_drewN{W:World}{base n:Nat}{e:TypeId}{size:Nat}{v:Value}{xs:List Value}(h:W.ownsRow base e size v n xs)(m:Nat):(W.drewN m).ownsRow base e size v n xs:=h
theorem ReadsInt.nil(W:World)(k:IntKind):ReadsInt W k none ([]:List Int).length []:=⟨rfl,by simp,fun h=>absurd h (Nat.lt_irrefl 0)⟩
theorem ReadsInt.drewN{W:World}{k:IntKind}{A:Option Addr}{n:Nat}{xs:List Int}(h:ReadsInt W k A n xs)(m:Nat):ReadsInt (W.drewN m) k A n xs:=h
theorem below_set{w W:World}{g j:Nat}{v:Value}(h:Below w.heap.size w W)(hg:w.heap.size<=g):Below w.heap.size w (W.setCell ⟨g,j,none⟩ v):=h.setCell hg _
theorem keep_cell{w W:World}{g:Nat}(h:KeepBut w W g none){a:Addr}{v:Value}(hc:w.cell? a=some v)(hne:a.block≠g):W.cell? a=some v:=by
 have:=h.2 a.block (World.block_lt_of_cell? w a hc) hne (by simp);simpa[World.cell?,this]using hc
theorem add_block(a:Addr)(i:Nat):(a.add i).block=a.block:=by unfold Addr.add;split<;>rfl
theorem ReadsOf.nil{α:Type}(enc:α->Value)(d:α)(W:World):ReadsOf enc d W none ([]:List α).length []:=⟨rfl,by simp,fun h=>absurd h (Nat.lt_irrefl 0)⟩
theorem ReadsOf.drewN{α:Type}{enc:α->Value}{d:α}{W:World}{A:Option Addr}{n:Nat}{xs:List α}(h:ReadsOf enc d W A n xs)(m:Nat):ReadsOf enc d (W.drewN m) A n xs:=h
theorem ReadsInt.keep{w W:World}{k:IntKind}{A:Option Addr}{n g:Nat}{xs:List Int}(h:ReadsInt w k A n xs)(hk:KeepBut w W g none)(hf: ∀ad,A=some ad->0<n->ad.block≠g):ReadsInt W k A n xs:=
 ⟨h.1,h.2.1,fun hn=>by
  obtain⟨ad,e,hc⟩:=h.2.2 hn;exact⟨ad,e,fun j hj=>keep_cell hk (hc j hj) (by rw[add_block];exact hf ad e hn)⟩⟩
theorem ReadsOf.keep{α:Type}{enc:α->Value}{d:α}{w W:World}{A:Option Addr}{n g:Nat}{xs:List α}(h:ReadsOf enc d w A n xs)(hk:KeepBut w W g none)(hf: ∀ad,A=some ad->0<n->ad.block≠g):ReadsOf enc d W A n xs:=
 ⟨h.1,h.2.1,fun hn=>by
  obtain⟨ad,e,hc⟩:=h.2.2 hn;exact⟨ad,e,fun j hj=>keep_cell hk (hc j hj) (by rw[add_block];exact hf ad e hn)⟩⟩
theorem cell_far{W:World}{p a:Addr}(h:a.block≠p.block)(u:Value):(W.setCell p u).cell? a=W.cell? a:=by
 have:=Below.heap_setCell W p u a.block h;simp[World.cell?,this]
theorem blk_put{w:World}{g:Nat}{t:TypeId}{cs cs':Array Value}(h:w.heap[g]? =some (.cells cs t (0,0)))(i:Nat)(u:Value)(e:cs.setIfInBounds i u=cs'):(w.setCell ⟨g,i,none⟩ u).heap[g]? =some (.cells cs' t (0,0)):=e▸blk_set h i u
theorem below_drew1{base:Nat}{w W:World}(h:Below base w W):Below base w W.drew:=h.drew
namespace Kd
section
variable {α:Type} {d:Kd α} {e base g:Nat} {ok:Nat->Prop} {w w1:World} {v:Value} {xs:List α} {o:Obj}
theorem R_elderB(h:d.R e w base ok v xs)(a:Nat)(ha:w.heap.size<=a):d.R e w base (fun k=>ok k/\k≠a) v xs:=R_mono (R_bound h) (fun k hk=>⟨hk.1,by have:=hk.2.2.1;omega⟩)
theorem R_newB(h:d.R e w1 w.heap.size ok v xs)(hb:w.heap[g]? =some o):d.R e w1 w.heap.size (fun k=>ok k/\k≠g) v xs:=R_mono (R_bound h) (fun k hk=>⟨hk.1,by have:=blk_lt hb;have:=hk.2.1;omega⟩)
theorem freshB(hb:w.heap[g]? =some o): ∀k,w.heap.size<=k->k≠g:=fun k hk=>by have:=blk_lt hb;omega
end
end Kd
section
variable {P:Program} {ops:Array Oper} {rest:List Oper} {o:Oper} {a:Act} {Q:Exit->Act->World->Prop}
theorem box_event{W:World}(hgd:o.guard=none){N:Tmp}(_hd:o.dst=some N){cs:Array Value}{t:TypeId}
 (hrun:(execOp a.eval o).run P W= .ok (.value (.pointer (some ⟨W.heap.size,0,none⟩))) (W.alloc (.cells cs t (0,0))))
 (h: ∀g,g=W.heap.size-> ∀w1,w1.heap[g]? =some (.cells cs t (0,0))->Below W.heap.size W w1->wpList P ops Q rest (a.put o.dst (.pointer (some ⟨g,0,none⟩))) w1):wpList P ops Q (o::rest) a W:=
 Kd.event_run hgd hrun (h _ rfl _ (blk_new W _) (below_alloc (Below.refl _ _) _))
end
namespace Kd
section
variable {α:Type} {enc:α->Value} {h1: ∀x,(enc x).oneCell'=true} {e base g n cap:Nat} {ok:Nat->Prop} {W:World} {xs:List α}
theorem R_celln(d:α)(h:(scalar enc h1).R e W base ok (.slice (some ⟨g,0,none⟩) n cap) xs)(i:Int)(h0:0<=i)(hi:i<n):W.cell? ⟨g,i.toNat,none⟩=some (enc (rdOf d xs i))/\W.frozen? ⟨g,i.toNat,none⟩=false:=by
 obtain⟨rfl,_⟩:=R_reads' h;exact R_cell d h i h0 hi
theorem R_putn(h:(scalar enc h1).R e W base ok (.slice (some ⟨g,0,none⟩) n cap) xs)(i:Int)(x:α):(scalar enc h1).R e (W.setCell ⟨g,i.toNat,none⟩ (enc x)) base ok (.slice (some ⟨g,0,none⟩) n cap) (xs.set i.toNat x):=by
 obtain⟨rfl,_⟩:=R_reads' h;exact(R_put h i x).1
end
end Kd
section
variable {P:Program} {ops:Array Oper} {rest:List Oper} {o:Oper} {a:Act} {Q:Exit->Act->World->Prop}
theorem store_event{W w1:World}(hgd:o.guard=none){t:TypeId}{p:Tmp}{v:Operand}(_ho:o.op= .store t (.tmp p) v)(hN:o.dst=none)
 (hrun:(execOp a.eval o).run P W= .ok .skip w1) (h: ∀w',w'=w1->wpList P ops Q rest a w'):wpList P ops Q (o::rest) a W:=by
 refine wpList_plain hgd fun K hK=>?_;unfold Oper.wp;rw[hrun];show K (a.put o.dst undef) w1;rw[hN];exact hK _ _ (h _ rfl)
end
namespace Kd
section
variable {α:Type} {enc:α->Value} {h1: ∀x,(enc x).oneCell'=true} {e base g n cap:Nat} {ok:Nat->Prop} {W:World} {xs:List α}
theorem R_putg(h:(scalar enc h1).R e W base ok (.slice (some ⟨g,0,none⟩) n cap) xs)(i:Int)(x:α):(scalar enc h1).R e (W.setCell ⟨g,i.toNat,none⟩ (enc x)) base ok (.slice (some ⟨g,0,none⟩) n cap) (xs.set i.toNat x)/\W.grownBy (W.setCell ⟨g,i.toNat,none⟩ (enc x)) (some g):=by
 obtain⟨rfl,_⟩:=R_reads' h;exact R_put h i x
end
end Kd
section
variable {P:Program} {ops:Array Oper} {rest:List Oper} {o:Oper} {a:Act} {Q:Exit->Act->World->Prop} {W:World}
theorem gate_dst{N:Tmp}(_hN:o.dst=some N)(h:wpList P ops Q (o::rest) a W):wpList P ops Q (o::rest) a W:=h
theorem gate_store{t:TypeId}{p:Tmp}{v:Operand}(_ho:o.op= .store t (.tmp p) v)(h:wpList P ops Q (o::rest) a W):wpList P ops Q (o::rest) a W:=h
end
section
variable {P:Program} {ops:Array Oper} {o:Oper} {a:Act} {Q:Exit->Act->World->Prop} {Kc:Act->World->Prop}
theorem event_step{W w1:World}{v:Value}(hw:Region.wanted o (yielded ops a.tmps)=true)(hrun:(execOp a.eval o).run P W= .ok (.value v) w1)(h:Kc (a.put o.dst v) w1):if Region.wanted o (yielded ops a.tmps)=true then Oper.wp P o a W Kc Q else Kc (a.put o.dst undef) W:=by
 rw[if_pos hw];unfold Oper.wp;rw[hrun];exact h
theorem box_step{W:World}(hw:Region.wanted o (yielded ops a.tmps)=true){N:Tmp}(_hd:o.dst=some N){cs:Array Value}{t:TypeId}
 (hrun:(execOp a.eval o).run P W= .ok (.value (.pointer (some ⟨W.heap.size,0,none⟩))) (W.alloc (.cells cs t (0,0))))
 (h: ∀g,g=W.heap.size-> ∀w1,w1.heap[g]? =some (.cells cs t (0,0))->Below W.heap.size W w1->Kc (a.put o.dst (.pointer (some ⟨g,0,none⟩))) w1):if Region.wanted o (yielded ops a.tmps)=true then Oper.wp P o a W Kc Q else Kc (a.put o.dst undef) W:=
 event_step hw hrun (h _ rfl _ (blk_new W _) (below_alloc (Below.refl _ _) _))
namespace Kd
variable {α:Type}
theorem R_lit_step(d:Kd α){w0 W:World}(base e:Nat)(hw:Region.wanted o (yielded ops a.tmps)=true){N:Tmp}(_hd:o.dst=some N){xs:List α}{inner:List Value}{ok okp:Nat->Prop}
 (hrun:(execOp a.eval o).run P W= .ok (.value (.slice (some ⟨W.heap.size,0,none⟩) xs.length xs.length)) (W.alloc (.cells inner.toArray e)))
 (hrep:Reps (d.M W base okp) d.sz xs inner) (hok: ∀k,okp k->ok k) (hfresh:ok W.heap.size) (HB:Below base w0 W) (hbase:base<=W.heap.size) (hm:xs.length<=9223372036854775807)
 (h: ∀v1 w1,d.R e w1 base ok v1 xs->Below base w0 w1->W.grownBy w1 none->(∃b,v1.ownBlock=some b/\W.heap.size<=b)->Kc (a.put o.dst v1) w1):if Region.wanted o (yielded ops a.tmps)=true then Oper.wp P o a W Kc Q else Kc (a.put o.dst undef) W:=by
 refine event_step hw hrun (h _ _ ⟨fun k hk=>?_,inner,?_,?_⟩ (HB.alloc hbase _) (World.grownBy_alloc W _ none) ⟨W.heap.size,by simp[Value.ownBlock],Nat.le_refl _⟩)
 ·have:W.heap.size=k:=by simpa[Value.ownBlock]using hk
  subst this;exact hfresh
 ·have h2:=World.ownsRow_lit (base:=base) (e:=e) (size:=d.sz) W inner.toArray xs.length hbase (by simpa[maxLen]using hm) (by simpa using hrep.1);simpa using h2
 ·refine hrep.imp_ (fun p c hp=>d.M_mono (fun k hk=>⟨hok k hk.1,fun he=>?_⟩) (M_below (d.M_bound hp) (below_alloc (Below.refl _ _) _)));have h3:k=W.heap.size:=by simpa[Value.ownBlock]using he
  have:=hk.2.2.1;omega
theorem R_make_step(d:Kd α){w0 W:World}(base e:Nat)(hw:Region.wanted o (yielded ops a.tmps)=true){N:Tmp}(hd:o.dst=some N)(t:TypeId)(x y:Operand)(ho:o.op= .makeSlice t x y)(n:Int)(hx:a.eval x= .int .i64 n)(hy:a.eval y= .int .i64 n)
 (ht:P.underlying t=some (.slice e)) (z:Value) (bytes:Nat) (hinfo:(P.info? e).map (fun i=>(i.zero,i.size,i.bytes))=some (some z,d.sz,bytes)) (hz:z.cells.size=d.sz) (hs0:0<d.sz) (hb0:0<bytes)
 (z0:α) {ok okp:Nat->Prop} (hzero:d.M W base okp z0 z.cells.toList) (hok: ∀k,okp k->ok k) (hfresh:ok W.heap.size) (h0:0<=n) (hl:n.toNat*bytes<=281474976710656) (HB:Below base w0 W) (hbase:base<=W.heap.size)
 (h: ∀v1 w1,d.R e w1 base ok v1 (List.replicate n.toNat z0)->Below base w0 w1->W.grownBy w1 none->(∃b,v1.ownBlock=some b/\W.heap.size<=b)->Kc (a.put o.dst v1) w1):if Region.wanted o (yielded ops a.tmps)=true then Oper.wp P o a W Kc Q else Kc (a.put o.dst undef) W:=by
 obtain⟨m,rfl⟩:=Int.eq_ofNat_of_zero_le h0;simp only[Int.toNat_natCast]at hl h;obtain⟨i0,hi,hzz⟩:=Option.map_eq_some_iff.1 hinfo;simp only[Prod.mk.injEq]at hzz;obtain⟨hz0,hz1,hz2⟩:=hzz;have hm:m<=281474976710656:=Nat.le_trans (Nat.le_mul_of_pos_right _ hb0) hl
 have hr:=run_make (P:=P) W t e i0 z ht hi hz0 .i64 .i64 (m:Int) (m:Int) (by omega) (by omega)
  (by
    have h3:((i0.bytes*m:Nat):Int)<=281474976710656:=by rw[hz2,Nat.mul_comm];omega
    rwa [Int.natCast_mul]at h3) (by omega)
 simp only[Int.toNat_natCast]at hr;rw[hz1]at hr
 refine R_lit_step d base e hw hd (xs:=List.replicate m z0) (inner:=(madeCells z.cells (m*d.sz)).toList) (okp:=okp) (ok:=ok) ?_ (reps_made hz hs0 hzero m) hok hfresh HB hbase (by simp;omega) h;simp[execOp,ho,hx,hy,hr]
theorem R_append_rows_step(d:Kd α){Rr:α->List Value->Prop}{w0 W:World}(base:Nat)(hw:Region.wanted o (yielded ops a.tmps)=true)(s x:Operand)(t e:TypeId)(z:Value)(bytes:Nat)
 (ho:o.op= .call { callee:= .builtin .append,args:= #[s,x],argTypes:= #[t,t] })
 (ht:P.underlying t=some (.slice e)) (hinfo:(P.info? e).map (fun i=>(i.zero,i.size,i.bytes))=some (some z,d.sz,bytes)) (hz:z.cells.size=d.sz) (hs0:0<d.sz) (hb0:0<bytes)
 (v:Value) (xs ys:List α) (A:Option Addr) (m c:Nat) (ok okp:Nat->Prop) (hs:a.eval s=v) (hx:a.eval x= .slice A m c)
 (HO:d.R e W base ok v xs) (HR:ReadsRow Rr d.sz W A m ys) (hKM: ∀x cs,Rr x cs->d.M W base okp x cs) (hokp: ∀k,okp k->ok k/\some k≠v.ownBlock) (hfresh: ∀k,W.heap.size<=k->ok k)
 (HB:Below base w0 W) (hbase:base<=W.heap.size) (hl:(xs.length+m)*bytes<=140737488355328)
 (h: ∀v1 w1,d.R e w1 base ok v1 (xs++ys)->Below base w0 w1->W.grownBy w1 v.ownBlock->(v1.ownBlock=v.ownBlock∨ ∃b,v1.ownBlock=some b/\W.heap.size<=b)->Kc (a.put o.dst v1) w1):
 if Region.wanted o (yielded ops a.tmps)=true then Oper.wp P o a W Kc Q else Kc (a.put o.dst undef) W:=by
 obtain⟨i0,hi,hzz⟩:=Option.map_eq_some_iff.1 hinfo;simp only[Prod.mk.injEq]at hzz;obtain⟨hz0,hz1,hz2⟩:=hzz;have hm:ys.length=m:=HR.1;have hlen:xs.length+m<=140737488355328:=Nat.le_trans (Nat.le_mul_of_pos_right _ hb0) hl;obtain⟨hok,inner,hown,hr⟩:=HO;have hrun: ∃v1 w1,(Builtin.append_ #[t,t] o.type #[v,.slice A m c]).run P W= .ok v1 w1/\d.R e w1 base ok v1 (xs++ys)/\W.grownBy w1 v.ownBlock/\(v1.ownBlock=v.ownBlock∨ ∃b,v1.ownBlock=some b/\W.heap.size<=b):=by
  rcases A with _|ad
  ·have h0:m=0:=by
    rcases Nat.eq_zero_or_pos m with h0|h0
    ·exact h0
    ·obtain⟨ad,h,_⟩:=HR.2.2 h0
     cases h
   subst h0;obtain rfl:ys= []:=List.eq_nil_of_length_eq_zero hm;refine⟨v,W,?_,by rw[List.append_nil];exact⟨hok,inner,hown,hr⟩,World.grownBy.refl W _,.inl rfl⟩;rcases hown.2 with⟨rfl,hn⟩|⟨g,cap,cur,rfl,_,_,hnc,_⟩
   ·simp[Builtin.append_,run_underlying ht,sizeOf,typeInfo,hi,Builtin.lenOf,Builtin.firstCells]
   ·simp[Builtin.append_,run_underlying ht,sizeOf,typeInfo,hi,Builtin.lenOf,Builtin.firstCells,hnc,storeCells]
  ·obtain⟨news,hnr,hnc⟩:=ReadsRow.inner_ HR;have hnM:Reps (d.M W base okp) d.sz ys news:=hnr.imp_ (fun p c hp=>hKM p c hp);have hone: ∀u∈news,u.oneCell'=true:=by
    intro u hu;obtain⟨q,hq,rfl⟩:=List.mem_iff_getElem.1 hu;have hql:q / d.sz<ys.length:=by
     rw[Nat.div_lt_iff_lt_mul hs0];rw[<-hnM.1];exact hq
    have hc:=hnM.2 (q / d.sz) _ (List.getElem?_eq_getElem hql);refine d.K_one (d.K_of_M hc) _ ?_;rw[List.mem_iff_getElem?];refine⟨q % d.sz,?_⟩;rw[List.getElem?_take,if_pos (Nat.mod_lt _ hs0),List.getElem?_drop,Nat.mul_comm,Nat.div_add_mod,List.getElem?_eq_getElem hq]
   obtain⟨v1,w1,hrun,h2,hg,_,hat⟩:=run_append_own_at (P:=P) W base t o.type e i0 z d.sz bytes ht hi hz0 hz1 hz2 hz hs0 v xs.length inner hown ad m c news (by rw[hnM.1,hm]) hnc hone (by simp only[maxLen];omega) hl hbase;have hat':v1.ownBlock=v.ownBlock∨ ∃b,v1.ownBlock=some b/\W.heap.size<=b:=by
    rcases hat with hat|hat
    ·exact .inl hat
    ·exact .inr ⟨_,hat,Nat.le_refl _⟩
   have hne: ∀k,some k≠v.ownBlock->k<W.heap.size->some k≠v1.ownBlock:=by
    intro k hk hlt;rcases hat' with hat|⟨b,hb,hle⟩
    ·rw[hat];exact hk
    ·rw[hb];intro he;injection he with he;omega
   have step: ∀ {q:α} {c:List Value} {o:Nat->Prop},d.M W base o q c->(∀k,o k->ok k/\some k≠v.ownBlock)->d.M w1 base (fun k=>ok k/\some k≠v1.ownBlock) q c:=by
    intro q c o hq ho;have h1:=d.M_move (w1:=w1) (fun k hk=>hg.block k hk.2.2.1 (ho k hk.1).2) (d.M_bound hq);exact d.M_mono (fun k hk=>⟨(ho k hk.1).1,hne k (ho k hk.1).2 hk.2.2.1⟩) h1
   refine⟨v1,w1,hrun,⟨fun k hk=>?_,inner++news,by rw[List.length_append,hm];exact h2,reps_append (hr.imp_ (fun _ _ hq=>step hq (fun _ hk=>hk))) (hnM.imp_ (fun _ _ hq=>step hq hokp))⟩,hg,hat'⟩;rcases hat' with hat|⟨b,hb,hle⟩
   ·exact hok k (hat▸hk)
   ·rw[hb]at hk
    injection hk with hk;exact hfresh k (by omega)
 obtain⟨v1,w1,hr1,h1,hg,hat⟩:=hrun;rw[if_pos hw];unfold Oper.wp execOp;simp only[ho,resolve,invoke,builtin,Sem.run_bind,Sem.run_pure,Result.andThen_ok,List.map_toArray,List.map_cons,List.map_nil,hs,hx,hr1];exact h v1 w1 h1 (HB.grown hg hbase (own_base hown)) hg hat
end Kd
end
inductive Vals (P:Program) (tmps:Array Value) (w:World):List ResultVar->List Value->Prop where
 |nil:Vals P tmps w [] []
 |tmp {u:Tmp} {rs:List ResultVar} {vs:List Value} (h:Vals P tmps w rs vs):Vals P tmps w (.tmp u::rs) (tmps.getD u undef::vs)
 |cell {p:Tmp} {ty:TypeId} {rs:List ResultVar} {vs:List Value} (g:Nat) (t:TypeId) (cs:Array Value) (fr:Nat×Nat) (d:TypeDesc)
   (hp:tmps.getD p undef= .pointer (some ⟨g,0,none⟩)) (hg:w.heap[g]? =some (.cells cs t fr))
   (hu:P.underlying ty=some d) (hd:(match d with| .struct _| .array _ _=>true|_=>false)=true) (hi:(P.info? ty).map (·.size)=some cs.size)
   (h:Vals P tmps w rs vs):Vals P tmps w (.cell p ty::rs) (.agg cs::vs)
namespace Kd
end Kd
end Go.Proofs.YtnfemjnajfdepaaW.PrintWords
namespace Go.Proofs.YtnfemjnajfdepaaW.PrintLast
section
variable {P:Program} {ops:Array Oper} {Q:Exit->Act->World->Prop} {md:Region.Mode} {S:World->Prop} {ds:List Nat}
def Region.reachB(md:Region.Mode)(ops:Array Oper)(i:Nat):Nat->Nat->Bool
 |0,_=>false
 |fuel+1,d=>match ops[d]? with
  |some o=>o.after.any fun e=>Region.binds md e&&(e.on==i||Region.reachB md ops i fuel e.on)
  |none=>false
def Region.closedB(md:Region.Mode)(ops:Array Oper)(listed:Array Bool):Bool:=
 (List.range ops.size).all fun j=> !listed.getD j false||match ops[j]? with
   |some o=>o.after.all fun e=> !Region.binds md e||listed.getD e.on false
   |none=>true
def Region.lastB(md:Region.Mode)(ops:Array Oper)(listed:Array Bool)(ds:List Nat)(i:Nat):Bool:=
 ds.all fun d=>listed.getD d true||Region.reachB md ops i ops.size d
def ListedClosed(md:Region.Mode)(ops:Array Oper)(listed:Array Bool):Prop:=
 ∀j oj,ops[j]? =some oj->listed.getD j false=true-> ∀e∈oj.after,Region.binds md e=true->listed.getD e.on false=true
theorem Region.closedB_spec{listed:Array Bool}(h:Region.closedB md ops listed=true):ListedClosed md ops listed:=by
 intro j oj hj hl e he hb;have hlt:j<ops.size:=(Array.getElem?_eq_some_iff.1 hj).1;have h1:=List.all_eq_true.1 h j (List.mem_range.2 hlt);simp only[hl,hj,Bool.not_true,Bool.false_or]at h1;have h2:=Array.all_eq_true_iff_forall_mem.1 h1 e he;simpa[hb]using h2
theorem ListedClosed.set{listed:Array Bool}{i:Nat}(h:ListedClosed md ops listed)(hi:i∈Region.ready md ops listed):ListedClosed md ops (listed.setIfInBounds i true):=by
 obtain⟨_,oi,hoi,hall⟩:=mem_ready.1 hi;intro j oj hj hl e he hb;by_cases hij:i=j
 case neg=>rw[getD_set_ne false hij]at hl;exact getD_set_true (h j oj hj hl e he hb)
 subst hij;have:oj=oi:=Option.some.inj (hj.symm.trans hoi);subst this;exact getD_set_true (hall e he hb)
theorem Region.reach_listed{listed:Array Bool}{i:Nat}(hc:ListedClosed md ops listed): ∀(fuel d:Nat),Region.reachB md ops i fuel d=true->listed.getD d false=true->listed.getD i false=true
 |0,_,h,_=>by simp[Region.reachB]at h
 |fuel+1,d,h,hl=>by
  unfold Region.reachB at h
  cases ho:ops[d]? with
  |none=>rw[ho]at h;simp at h
  |some o=>
   rw[ho]at h
   obtain⟨e,he,h1⟩:=Array.any_eq_true'.1 h;simp only[Bool.and_eq_true,Bool.or_eq_true,beq_iff_eq]at h1;have hle:=hc d o ho hl e he h1.1;rcases h1.2 with h2|h2
   ·rw[<-h2];exact hle
   ·exact Region.reach_listed hc fuel e.on h2 hle
theorem Region.reach_not_ready{listed:Array Bool}{i d fuel:Nat}(hc:ListedClosed md ops listed)(hr:Region.reachB md ops i fuel d=true)(hun:listed.getD i true=false):d∉Region.ready md ops listed:=by
 intro hd;obtain⟨_,o,ho,hall⟩:=mem_ready.1 hd;have hi:listed.getD i false=true:=by
  cases fuel with
  |zero=>simp[Region.reachB]at hr
  |succ n=>
   unfold Region.reachB at hr;rw[ho]at hr
   obtain⟨e,he,h1⟩:=Array.any_eq_true'.1 hr;simp only[Bool.and_eq_true,Bool.or_eq_true,beq_iff_eq]at h1;have hle:=hall e he h1.1;rcases h1.2 with h2|h2
   ·rw[<-h2];exact hle
   ·exact Region.reach_listed hc n e.on h2 hle
 rcases Nat.lt_or_ge i listed.size with h'|h'
 ·simp[h']at hun hi
  rw[hun]at hi
  cases hi
 ·simp[Array.getElem?_eq_none h']at hun
def wpAnyLast(P:Program)(md:Region.Mode)(ops:Array Oper)(Q:Exit->Act->World->Prop)(S:World->Prop)(ds:List Nat):Nat->Array Bool->Act->World->Prop
 |0,listed,a,w=>Region.ready md ops listed= []/\Q .normal a w
 |fuel+1,listed,a,w=>
  (Region.ready md ops listed= []->Q .normal a w)/\
  ∀i∈Region.ready md ops listed,wpOp P ops Q i (fun a' w'=>(i∉ds->S w->S w')/\wpAnyLast P md ops Q S ds fuel (listed.setIfInBounds i true) a' w') a w
theorem wpAny_of_last: ∀(fuel:Nat) (listed:Array Bool) (a:Act) (w:World),wpAnyLast P md ops Q S ds fuel listed a w->wpAny P md ops Q fuel listed a w
 |0,_,_,_,h=>h
 |fuel+1,_,_,_,h=>⟨h.1,fun i hi=>wpOp_mono (fun a' w' h'=>wpAny_of_last fuel _ a' w' h'.2) (h.2 i hi)⟩
theorem wpAnyLast_first{i:Nat}{oi:Oper}{v:Value}(hi:ops[i]? =some oi)(hsel: ∀(j:Nat) (o:Oper) cs b,ops[j]? =some o->o.op≠ .select cs b)
 (hQ: ∀c a w,Q (.panic c) (a.put oi.dst v) w->Q (.panic c) a w) (n:Nat):
 ∀(fuel:Nat) (listed:Array Bool) (a:Act) (w:World),
  (∀j oj,ops[j]? =some oj->j≠i->listed.getD j true=false->(∀e∈oj.after,Region.binds md e=true->e.on≠i)->oi.apart ops oj=true)->
  ListedClosed md ops listed->(∀d∈ds,listed.getD d true=false->Region.reachB md ops i n d=true)->
  i∈Region.ready md ops listed->YieldsIf P ops S oi v a->S w->
  wpAnyLast P md ops Q S ds fuel (listed.setIfInBounds i true) (a.put oi.dst v) w->wpAnyLast P md ops Q S ds (fuel+1) listed a w:=by
 intro fuel
 induction fuel with
 |zero=>
  intro listed a w _ _ _ hr hy hS H;refine⟨fun h=>(by rw[h]at hr;cases hr),fun j hj=>?_⟩;by_cases hji:j=i
  ·subst hji;exact hy.wpOp hi hS ⟨fun _ h=>h,H⟩
  have:=ready_mono hj hji;rw[H.1]at this
  cases this
 |succ fuel ih=>
  intro listed a w hfree hc hd hr hy hS H;refine⟨fun h=>(by rw[h]at hr;cases hr),fun j hj=>?_⟩;by_cases hji:j=i
  ·subst hji;exact hy.wpOp hi hS ⟨fun _ h=>h,H⟩
  have h1:=H.2 j (ready_mono hj hji);obtain⟨hjun,oj,hoj,hall⟩:=mem_ready.1 hj;have hiun:=(mem_ready.1 hr).1;have hnot: ∀e∈oj.after,Region.binds md e=true->e.on≠i:=fun e he hb heq=>by
   have h1:=hall e he hb;rw[heq]at h1
   rcases Nat.lt_or_ge i listed.size with h'|h'
   ·simp[h']at hiun h1;rw[hiun]at h1;cases h1
   ·simp[Array.getElem?_eq_none h']at h1
  have hjd:j∉ds:=fun hm=>Region.reach_not_ready hc (hd j hm hjun) hiun hj;have h2:=wpOp_putIf hoj (hfree j oj hoj hji hjun hnot) (fun cs b=>hsel i oi cs b hi) (fun cs b=>hsel j oj cs b hoj) hQ hy h1
  have hfree': ∀k ok,ops[k]? =some ok->k≠i->(listed.setIfInBounds j true).getD k true=false->
   (∀e∈ok.after,Region.binds md e=true->e.on≠i)->oi.apart ops ok=true:=fun k ok hk hki hun hno=>by
   refine hfree k ok hk hki ?_ hno;by_cases hjk:j=k
   case neg=>rw[getD_set_ne true hjk]at hun;exact hun
   subst hjk;exact hjun
  have hd': ∀d∈ds,(listed.setIfInBounds j true).getD d true=false->Region.reachB md ops i n d=true:=fun d hm hun=>by
   refine hd d hm ?_;by_cases hjk:j=d
   case neg=>rw[getD_set_ne true hjk]at hun;exact hun
   subst hjk;exact hjun
  refine wpOp_mono (fun a' w' h3=>⟨h3.2.1,ih (listed.setIfInBounds j true) a' w' hfree' (hc.set hj) hd' (ready_mono hr (Ne.symm hji)) h3.1 (h3.2.1 hjd hS) ?_⟩) h2;rw[Array.setIfInBounds_comm _ _ hji];exact h3.2.2
theorem wpAnyLast_any{i:Nat}{oi:Oper}{v:Value}(hi:ops[i]? =some oi)(hsel: ∀(j:Nat) (o:Oper) cs b,ops[j]? =some o->o.op≠ .select cs b)
 (hQ: ∀c a w,Q (.panic c) (a.put oi.dst v) w->Q (.panic c) a w):
 ∀(fuel:Nat) (listed:Array Bool) (a:Act) (w:World),
  (∀j oj,ops[j]? =some oj->j≠i->listed.getD j true=false->(∀e∈oj.after,Region.binds md e=true->e.on≠i)->oi.apart ops oj=true)->
  i∈Region.ready md ops listed->Yields P ops oi v a->
  wpAnyLast P md ops Q S ds fuel (listed.setIfInBounds i true) (a.put oi.dst v) w->wpAnyLast P md ops Q S ds (fuel+1) listed a w:=by
 intro fuel
 induction fuel with
 |zero=>
  intro listed a w _ hr hy H;refine⟨fun h=>(by rw[h]at hr;cases hr),fun j hj=>?_⟩;by_cases hji:j=i
  ·subst hji;exact(hy.yieldsIf (S:=fun _=>True)).wpOp hi trivial ⟨fun _ h=>h,H⟩
  have:=ready_mono hj hji;rw[H.1]at this
  cases this
 |succ fuel ih=>
  intro listed a w hfree hr hy H;refine⟨fun h=>(by rw[h]at hr;cases hr),fun j hj=>?_⟩;by_cases hji:j=i
  ·subst hji;exact(hy.yieldsIf (S:=fun _=>True)).wpOp hi trivial ⟨fun _ h=>h,H⟩
  have h1:=H.2 j (ready_mono hj hji);obtain⟨hjun,oj,hoj,hall⟩:=mem_ready.1 hj;have hiun:=(mem_ready.1 hr).1;have hnot: ∀e∈oj.after,Region.binds md e=true->e.on≠i:=fun e he hb heq=>by
   have h1:=hall e he hb;rw[heq]at h1
   rcases Nat.lt_or_ge i listed.size with h'|h'
   ·simp[h']at hiun h1;rw[hiun]at h1;cases h1
   ·simp[Array.getElem?_eq_none h']at h1
  have h2:=wpOp_put hoj (hfree j oj hoj hji hjun hnot) (fun cs b=>hsel i oi cs b hi) (fun cs b=>hsel j oj cs b hoj) hQ hy h1
  have hfree': ∀k ok,ops[k]? =some ok->k≠i->(listed.setIfInBounds j true).getD k true=false->
   (∀e∈ok.after,Region.binds md e=true->e.on≠i)->oi.apart ops ok=true:=fun k ok hk hki hun hno=>by
   refine hfree k ok hk hki ?_ hno;by_cases hjk:j=k
   case neg=>rw[getD_set_ne true hjk]at hun;exact hun
   subst hjk;exact hjun
  refine wpOp_mono (fun a' w' h3=>⟨h3.2.1,ih (listed.setIfInBounds j true) a' w' hfree' (ready_mono hr (Ne.symm hji)) h3.1 ?_⟩) h2;rw[Array.setIfInBounds_comm _ _ hji];exact h3.2.2
theorem wpAnyLast_take{i:Nat}{oi:Oper}{v:Value}{fuel:Nat}{listed:Array Bool}{a:Act}{w:World}(hi:ops[i]? =some oi)
 (hs:Region.noSelect ops=true) (hf:Region.free md ops listed i=true) (hr:(Region.ready md ops listed).contains i=true)
 (hc:Region.closedB md ops listed=true) (hl:Region.lastB md ops listed ds i=true)
 (hQ: ∀c a w,Q (.panic c) (a.put oi.dst v) w->Q (.panic c) a w) (hy:YieldsIf P ops S oi v a) (hS:S w)
 (h:wpAnyLast P md ops Q S ds fuel (listed.setIfInBounds i true) (a.put oi.dst v) w):wpAnyLast P md ops Q S ds (fuel+1) listed a w:=
 wpAnyLast_first hi (Region.noSelect_spec hs) hQ ops.size fuel listed a w (Region.free_spec hi hf) (Region.closedB_spec hc)
  (fun d hm hun=>by have:=List.all_eq_true.1 hl d hm;rw[hun]at this;simpa using this) (by simpa using hr) hy hS h
theorem wpAnyLast_all{rs:List Nat}{fuel:Nat}{listed:Array Bool}{a:Act}{w:World}(hr:Region.ready md ops listed=rs)(hne:rs≠ [])
 (h: ∀i∈rs,wpOp P ops Q i (fun a' w'=>(i∉ds->S w->S w')/\wpAnyLast P md ops Q S ds fuel (listed.setIfInBounds i true) a' w') a w):wpAnyLast P md ops Q S ds (fuel+1) listed a w:=
 ⟨fun h0=>absurd (hr▸h0) hne,hr▸h⟩
theorem wpAnyLast_done{listed:Array Bool}{a:Act}{w:World}(hr:Region.ready md ops listed= [])(h:Q .normal a w):
 ∀fuel,wpAnyLast P md ops Q S ds fuel listed a w
 |0=>⟨hr,h⟩
 |_+1=>⟨fun _=>h,by rw[hr];simp⟩
theorem wp_region_last{id:Nat}{a:Act}{w:World}(hm:P.follows .mixedOrders=true)
 (h:wpAnyLast P .any ops Q S ds ops.size (Array.replicate ops.size false) a { w with drawn:=w.drawn+1 }):(Code.region id ops true).wp P Q a w:=
 wp_region_any hm (wpAny_of_last _ _ _ _ h)
end
section
variable {P:Program} {ops:Array Oper} {Q:Exit->Act->World->Prop} {md:Region.Mode} {S:World->Prop} {ds:List Nat}
def AllReadyL(P:Program)(md:Region.Mode)(ops:Array Oper)(Q:Exit->Act->World->Prop)(S:World->Prop)(ds:List Nat)(fuel:Nat)(listed:Array Bool)(a:Act)(w:World)(rs:List Nat):Prop:=
 ∀i∈rs,wpOp P ops Q i (fun a' w'=>(i∉ds->S w->S w')/\wpAnyLast P md ops Q S ds fuel (listed.setIfInBounds i true) a' w') a w
theorem AllReadyL.nil{fuel:Nat}{listed:Array Bool}{a:Act}{w:World} :AllReadyL P md ops Q S ds fuel listed a w []:=fun _ h=>by cases h
theorem AllReadyL.cons{fuel:Nat}{listed:Array Bool}{a:Act}{w:World}{i:Nat}{o:Oper}{rs:List Nat}(ho:ops[i]? =some o)(hd:i∉ds)
 (h: ∀K':Act->World->Prop,Shut (∀a w,S w->(S w->wpAnyLast P md ops Q S ds fuel (listed.setIfInBounds i true) a w)->K' a w)->if Region.wanted o (yielded ops a.tmps)=true then Oper.wp P o a w K' Q else K' (a.put o.dst undef) w)
 (hs:AllReadyL P md ops Q S ds fuel listed a w rs):AllReadyL P md ops Q S ds fuel listed a w (i::rs):=fun j hj=>by
 rcases List.mem_cons.1 hj with rfl|hj
 ·exact wpOp_step ho (fun K' hK=>h K' (fun a w hS hW=>hK a w ⟨fun _ _=>hS,hW hS⟩))
 ·exact hs j hj
theorem AllReadyL.cons_last{fuel:Nat}{listed:Array Bool}{a:Act}{w:World}{i:Nat}{o:Oper}{rs:List Nat}(ho:ops[i]? =some o)(hd:i∈ds)
 (h: ∀K':Act->World->Prop,Shut (∀a w,wpAnyLast P md ops Q S ds fuel (listed.setIfInBounds i true) a w->K' a w)->if Region.wanted o (yielded ops a.tmps)=true then Oper.wp P o a w K' Q else K' (a.put o.dst undef) w)
 (hs:AllReadyL P md ops Q S ds fuel listed a w rs):AllReadyL P md ops Q S ds fuel listed a w (i::rs):=fun j hj=>by
 rcases List.mem_cons.1 hj with rfl|hj
 ·exact wpOp_step ho (fun K' hK=>h K' (fun a w hW=>hK a w ⟨fun hn=>absurd hd hn,hW⟩))
 ·exact hs j hj
theorem wpAnyLast_ready{rs:List Nat}{fuel:Nat}{listed:Array Bool}{a:Act}{w:World}(hr:Region.ready md ops listed=rs)(hne:rs≠ [])
 (h:AllReadyL P md ops Q S ds fuel listed a w rs):wpAnyLast P md ops Q S ds (fuel+1) listed a w:=wpAnyLast_all hr hne h
theorem start_{id n:Nat}{a:Act}{w:World}(l:Array Bool)(hm:P.follows .mixedOrders=true)(hn:ops.size=n)(hl:Array.replicate n false=l)(hS:S w.drew)
 (h:S w.drew->wpAnyLast P .any ops Q S ds n l a w.drew):(Code.region id ops true).wp P Q a w:=by
 subst hn;subst hl;exact wp_region_last hm (h hS)
def takeB(md:Region.Mode)(ops:Array Oper)(ds:List Nat)(l l':Array Bool)(i:Nat):Bool:=
 Region.noSelect ops&&Region.free md ops l i&&(Region.ready md ops l).contains i&&Region.closedB md ops l&&Region.lastB md ops l ds i&&(l.setIfInBounds i true==l')
theorem take_{i:Nat}{N:Option Tmp}{oi:Oper}{v:Value}{fuel:Nat}{l:Array Bool}{a:Act}{w:World}(l':Array Bool)(hi:ops[i]? =some oi)(hN:oi.dst=N)(hc:takeB md ops ds l l' i=true)
 (hQ: ∀c a w,Q (.panic c) (a.put oi.dst v) w->Q (.panic c) a w) (hy:YieldsIf P ops S oi v a) (hS:S w) {a':Act} (ha:a.put N v=a')
 (h:wpAnyLast P md ops Q S ds fuel l' a' w):wpAnyLast P md ops Q S ds (fuel+1) l a w:=by
 subst ha;subst hN;simp only[takeB,Bool.and_eq_true,beq_iff_eq]at hc;obtain⟨⟨⟨⟨⟨h1,h2⟩,h3⟩,h4⟩,h5⟩,h6⟩:=hc;subst h6;exact wpAnyLast_take hi h1 h2 h3 h4 h5 hQ hy hS h
def anyB(md:Region.Mode)(ops:Array Oper)(l l':Array Bool)(i:Nat):Bool:=
 Region.noSelect ops&&Region.free md ops l i&&(Region.ready md ops l).contains i&&(l.setIfInBounds i true==l')
theorem pure_{i:Nat}{N:Option Tmp}{oi:Oper}{v:Value}{fuel:Nat}{l:Array Bool}{a:Act}{w:World}(l':Array Bool)(hi:ops[i]? =some oi)(hN:oi.dst=N)(hc:anyB md ops l l' i=true)
 (hQ: ∀c a w,Q (.panic c) (a.put oi.dst v) w->Q (.panic c) a w) (hy:Yields P ops oi v a) {a':Act} (ha:a.put N v=a')
 (h:wpAnyLast P md ops Q S ds fuel l' a' w):wpAnyLast P md ops Q S ds (fuel+1) l a w:=by
 subst ha;subst hN;simp only[anyB,Bool.and_eq_true,beq_iff_eq]at hc;obtain⟨⟨⟨h1,h2⟩,h3⟩,h6⟩:=hc;subst h6;exact wpAnyLast_any hi (Region.noSelect_spec h1) hQ fuel l a w (Region.free_spec hi h2) (by simpa using h3) hy h
def readyB(md:Region.Mode)(ops:Array Oper)(l l':Array Bool)(i:Nat):Bool:=(Region.ready md ops l== [i])&&(l.setIfInBounds i true==l')
theorem one_{i:Nat}{N:Option Tmp}{oi:Oper}{fuel:Nat}{l:Array Bool}{a:Act}{w:World}(l':Array Bool)(hi:ops[i]? =some oi)(hN:oi.dst=N)(hc:readyB md ops l l' i=true)(hd:i∉ds)
 (h: ∀K:Act->World->Prop,Shut (∀a' w',S w'->(S w'->wpAnyLast P md ops Q S ds fuel l' a' w')->K a' w')->if Region.wanted oi (yielded ops a.tmps)=true then Oper.wp P oi a w K Q else K (a.put N undef) w):
 wpAnyLast P md ops Q S ds (fuel+1) l a w:=by
 subst hN;simp only[readyB,Bool.and_eq_true,beq_iff_eq]at hc;obtain⟨h1,h2⟩:=hc;subst h2;exact wpAnyLast_ready h1 (by simp) (AllReadyL.cons hi hd (fun K hK=>h K hK) AllReadyL.nil)
theorem last_{i:Nat}{N:Option Tmp}{oi:Oper}{fuel:Nat}{l:Array Bool}{a:Act}{w:World}(l':Array Bool)(hi:ops[i]? =some oi)(hN:oi.dst=N)(hc:readyB md ops l l' i=true)(hd:i∈ds)
 (h: ∀K:Act->World->Prop,Shut (∀a' w',wpAnyLast P md ops Q S ds fuel l' a' w'->K a' w')->if Region.wanted oi (yielded ops a.tmps)=true then Oper.wp P oi a w K Q else K (a.put N undef) w):
 wpAnyLast P md ops Q S ds (fuel+1) l a w:=by
 subst hN;simp only[readyB,Bool.and_eq_true,beq_iff_eq]at hc;obtain⟨h1,h2⟩:=hc;subst h2;exact wpAnyLast_ready h1 (by simp) (AllReadyL.cons_last hi hd (fun K hK=>h K hK) AllReadyL.nil)
theorem done_{l:Array Bool}{a:Act}{w:World}{n:Nat}(hr:(Region.ready md ops l== [])=true)(h:Q .normal a w):wpAnyLast P md ops Q S ds n l a w:=wpAnyLast_done (by simpa using hr) h n
theorem two_{i j:Nat}{Ni Nj:Option Tmp}{oi oj:Oper}{fuel:Nat}{l:Array Bool}{a:Act}{w:World}(li lj:Array Bool)(hi:ops[i]? =some oi)(hj:ops[j]? =some oj)(hNi:oi.dst=Ni)(hNj:oj.dst=Nj)
 (hc:(Region.ready md ops l== [i,j]&&l.setIfInBounds i true==li&&l.setIfInBounds j true==lj)=true) (hdi:i∉ds) (hdj:j∉ds)
 (h1: ∀K:Act->World->Prop,Shut (∀a' w',S w'->(S w'->wpAnyLast P md ops Q S ds fuel li a' w')->K a' w')->if Region.wanted oi (yielded ops a.tmps)=true then Oper.wp P oi a w K Q else K (a.put Ni undef) w)
 (h2: ∀K:Act->World->Prop,Shut (∀a' w',S w'->(S w'->wpAnyLast P md ops Q S ds fuel lj a' w')->K a' w')->if Region.wanted oj (yielded ops a.tmps)=true then Oper.wp P oj a w K Q else K (a.put Nj undef) w):
 wpAnyLast P md ops Q S ds (fuel+1) l a w:=by
 subst hNi;subst hNj;simp only[Bool.and_eq_true,beq_iff_eq]at hc;obtain⟨⟨h3,h4⟩,h5⟩:=hc;subst h4;subst h5;exact wpAnyLast_ready h3 (by simp) (AllReadyL.cons hi hdi (fun K hK=>h1 K hK) (AllReadyL.cons hj hdj (fun K hK=>h2 K hK) AllReadyL.nil))
def putAll:Act->List (Tmp×Value)->Act
 |a,[]=>a
 |a,(n,v)::r=>putAll (a.put (some n) v) r
theorem join_{σ:Type}{fuel:Nat}{l:Array Bool}{a:Act}{w:World}(fuel':Nat)(l':Array Bool)(ns:σ->List (Tmp×Value))(F:σ->World->Prop)
 (hcont: ∀s w',F s w'->wpAnyLast P md ops Q S ds fuel' l' (putAll a (ns s)) w')
 (h:(∀s w',F s w'->wpAnyLast P md ops Q S ds fuel' l' (putAll a (ns s)) w')->wpAnyLast P md ops Q S ds fuel l a w):wpAnyLast P md ops Q S ds fuel l a w:=h hcont
theorem norm_{fuel:Nat}{l:Array Bool}{a a':Act}{w:World}(ha:a=a')(h:wpAnyLast P md ops Q S ds fuel l a' w):wpAnyLast P md ops Q S ds fuel l a w:=by
 subst ha;exact h
theorem call_{oi:Oper}{N:Option Tmp}{a:Act}{w:World}{K:Act->World->Prop}(f:FuncId)(args:Array Value)(hw:Region.wanted oi (yielded ops a.tmps)=true)(hN:oi.dst=N)(hrun:(execOp a.eval oi).run P w= .ok (.enter f args) w)
 (h:Calls P f args w fun e w'=> ∃v,e= .returned v/\K (a.put N v) w'):if Region.wanted oi (yielded ops a.tmps)=true then Oper.wp P oi a w K Q else K (a.put N undef) w:=by
 rw[if_pos hw];subst hN;unfold Oper.wp;rw[hrun,Oper.upon_enter];refine h.mono fun e w'' hh=>?_;obtain⟨v,rfl,hk⟩:=hh;exact hk
theorem enters_{f:FuncId}{fn:Func}(hf:P.funcs[f]? =some fn)(hname:(fn.name== "runtime.NumGoroutine")=false)(hb:fn.body.isSome=true)(args:Array Value)(w:World):(callFunc f args).run P w= .ok (.enter f args) w:=by
 have h1:fn.name≠ "runtime.NumGoroutine" :=by simpa using hname
 obtain⟨c,hc⟩:=Option.isSome_iff_exists.1 hb;simp[callFunc,hf,h1,hc]
theorem goes_{oi:Oper}{N:Option Tmp}{a:Act}{w:World}{K:Act->World->Prop}{f:FuncId}{fn:Func}{asz:Array Operand}{ts:Array TypeId}(hf:P.funcs[f]? =some fn)(hname:(fn.name== "runtime.NumGoroutine")=false)(hb:fn.body.isSome=true)(args:Array Value)
 (hw:Region.wanted oi (yielded ops a.tmps)=true) (hN:oi.dst=N) (hop:oi.op= .call { callee:= .value (.func f),args:=asz,argTypes:=ts }) (hargs:asz.map a.eval=args)
 (h:Calls P f args w fun e w'=> ∃v,e= .returned v/\K (a.put N v) w'):if Region.wanted oi (yielded ops a.tmps)=true then Oper.wp P oi a w K Q else K (a.put N undef) w:=by
 refine call_ f args hw hN ?_ h;have he:=enters_ hf hname hb args w;unfold execOp;simp[hop,resolve,Deferred.ofValue,invoke,Act.eval,hargs,he]
theorem goesL_{rest:List Oper}{oi:Oper}{a:Act}{w:World}(N:Option Tmp)(hd:oi.dst=N)(hg:oi.guard=none){f:FuncId}{fn:Func}{asz:Array Operand}{ts:Array TypeId}(hf:P.funcs[f]? =some fn)(hname:(fn.name== "runtime.NumGoroutine")=false)(hb:fn.body.isSome=true)(args:Array Value)
 (hop:oi.op= .call { callee:= .value (.func f),args:=asz,argTypes:=ts }) (hargs:asz.map a.eval=args)
 (h:Calls P f args w fun e w'=> ∃v,e= .returned v/\wpList P ops Q rest (a.put N v) w'):wpList P ops Q (oi::rest) a w:=by
 refine wpList_plain hg fun K hK=>?_;have he:=enters_ hf hname hb args w;have hrun:(execOp a.eval oi).run P w= .ok (.enter f args) w:=by
  unfold execOp;simp[hop,resolve,Deferred.ofValue,invoke,Act.eval,hargs,he]
 unfold Oper.wp;rw[hrun,Oper.upon_enter];refine h.mono fun e w'' hh=>?_;obtain⟨v,rfl,hk⟩:=hh;subst hd;exact hK _ _ hk
theorem value_{oi:Oper}{N:Option Tmp}{a:Act}{w w1:World}{v:Value}{K:Act->World->Prop}(hw:Region.wanted oi (yielded ops a.tmps)=true)(hN:oi.dst=N)(hrun:(execOp a.eval oi).run P w= .ok (.value v) w1)
 (h:K (a.put N v) w1):if Region.wanted oi (yielded ops a.tmps)=true then Oper.wp P oi a w K Q else K (a.put N undef) w:=by
 rw[if_pos hw];subst hN;unfold Oper.wp;rw[hrun];exact h
theorem skip_{oi:Oper}{a:Act}{w w1:World}{K:Act->World->Prop}(hw:Region.wanted oi (yielded ops a.tmps)=true)(hN:oi.dst=none)(hrun:(execOp a.eval oi).run P w= .ok .skip w1)
 (h:K a w1):if Region.wanted oi (yielded ops a.tmps)=true then Oper.wp P oi a w K Q else K (a.put none undef) w:=by
 rw[if_pos hw];unfold Oper.wp;rw[hrun];show K (a.put oi.dst undef) w1;rw[hN];exact h
theorem i64_w(n:Int):IntKind.i64.wrap n=Go.RowKit.wrap64 n:=by unfold Go.RowKit.wrap64;exact IntKind.wrap_i64 n
theorem i32_w(n:Int):IntKind.i32.wrap n=Go.RowKit.wrap32 n:=by unfold Go.RowKit.wrap32;exact IntKind.wrap_i32 n
end
end Go.Proofs.YtnfemjnajfdepaaW.PrintLast
namespace Go.Proofs.YtnfemjnajfdepaaW.PrintWords
open RowKit
namespace Kd
def tag{α:Type}(f:Nat->Nat)(d:Kd α):Kd (α×Nat) where
 sz:=d.sz
 E:=d.E
 K:=fun w x cs=>d.K w x.1 cs
 M:=fun w base ok x cs=>d.M w base (fun k=>ok k/\f k=x.2) x.1 cs
 K_len:=fun h=>d.K_len h
 K_one:=fun h=>d.K_one h
 K_below:=fun hb h=>d.K_below hb h
 K_of_M:=fun h=>d.K_of_M h
 M_mono:=fun hok h=>d.M_mono (fun k hk=>⟨hok k hk.1,hk.2⟩) h
 M_bound:=fun h=>d.M_mono (fun _ hk=>⟨⟨hk.1.1,hk.2⟩,hk.1.2⟩) (d.M_bound h)
 M_move:=fun hm h=>d.M_move (fun k hk=>hm k hk.1) h
 M_lower:=fun hb h=>d.M_lower hb h
def raw(sz:Nat):Kd (List Value) where
 sz:=sz
 E:= []
 K:=fun _ x cs=>cs=x/\cs.length=sz/\ ∀u∈cs,u.oneCell'=true
 M:=fun _ _ _ x cs=>cs=x/\cs.length=sz/\ ∀u∈cs,u.oneCell'=true
 K_len:=fun h=>h.2.1
 K_one:=fun h=>h.2.2
 K_below:=fun _ h=>h
 K_of_M:=fun h=>h
 M_mono:=fun _ h=>h
 M_bound:=fun h=>h
 M_move:=fun _ h=>h
 M_lower:=fun _ h=>h
def S{α:Type}(d:Kd α)(e:Nat)(w:World)(base:Nat)(ok:Nat->Prop)(v:Value)(xs:List α):Prop:= ∃f,(tag f d).R e w base ok v xs.zipIdx
section
variable {α β:Type} {d:Kd α} {d':Kd β} {e e':Nat} {w w1 W:World} {base b:Nat} {ok ok' okv oku:Nat->Prop} {u v:Value} {xs:List α} {ys:List β}
theorem zip_at{xs:List α}{j:Nat}{p:α}(h:xs[j]? =some p):xs.zipIdx[j]? =some (p,j):=by rw[List.getElem?_zipIdx,h,Nat.zero_add];rfl
theorem S_R(h:S d e w base ok v xs):d.R e w base ok v xs:=by
 obtain⟨f,h0,inner,ho,hr⟩:=h;rw[List.length_zipIdx]at ho
 exact⟨h0,inner,ho,by have:=hr.1;rw[List.length_zipIdx]at this;exact this,fun j p hj=>d.M_mono (fun _ hk=>hk.1) (hr.2 j (p,j) (zip_at hj))⟩
theorem R_head{ad:Addr}{n cap:Nat}(h:d.R e w base ok (.slice (some ad) n cap) xs): ∃g,ad=⟨g,0,none⟩:=by
 obtain⟨_,inner,ho,hr⟩:=h;rcases ho.2 with⟨hv,_⟩|⟨g,cap',cur,hv,_⟩
 ·cases hv
 ·injection hv with ha _ _;injection ha with ha;exact⟨g,ha⟩
theorem R_getA{ad:Addr}{n cap:Nat}(h:d.R e W base ok (.slice (some ad) n cap) xs)(z:α)(i:Int)(h0:0<=i)(h1:i<n):
 ∃c,c.length=d.sz/\d.M W base (fun k=>ok k/\some k≠(Value.slice (some ad) n cap).ownBlock) (xs.getD i.toNat z) c/\ ∀j u,c[j]? =some u->W.cell? (ad.add (i.toNat*d.sz+j))=some u:=by
 obtain⟨g,rfl⟩:=R_head h;obtain⟨c,hcl,hM,hcc,_⟩:=R_elem h z i h0 h1;refine⟨c,hcl,d.M_mono (fun k hk=>⟨hk.1,fun he=>hk.2 (by simpa[Value.ownBlock]using he)⟩) hM,fun j u hu=>?_⟩;rw[add_at,Nat.zero_add];exact hcc j u hu
theorem R_tight(hE:d.E= [])(h:d.R e w base ok v xs):d.R e w base (fun k=>some k=v.ownBlock) v xs:=by
 obtain⟨h0,inner,ho,hr⟩:=h;refine⟨fun k hk=>hk.symm,inner,ho,hr.imp_ (fun p c hp=>d.M_mono (fun k hk=>?_) (d.M_bound hp))⟩;obtain⟨_,_,_,q,hq,_⟩:=hk;rw[hE]at hq
 cases hq
theorem S_nil(d:Kd α)(e:Nat)(w:World)(base:Nat)(ok:Nat->Prop):S d e w base ok (.slice none 0 0) []:=⟨fun _=>0,R_nil _ _ _ _ _⟩
theorem S_mono(h:S d e w base ok v xs)(hok: ∀k,ok k->ok' k):S d e w base ok' v xs:=by
 obtain⟨f,h⟩:=h;exact⟨f,R_mono h hok⟩
theorem S_bound(h:S d e w base ok v xs):S d e w base (fun k=>ok k/\base<=k/\k<w.heap.size/\ ∃q,q∈e::d.E/\ ∃cells,w.heap[k]? =some (.cells cells q (0,0))) v xs:=by
 obtain⟨f,h⟩:=h;exact⟨f,R_bound h⟩
theorem S_move(h:S d e w base ok v xs)(hm: ∀k,ok k->w1.heap[k]? =w.heap[k]?):S d e w1 base ok v xs:=by
 obtain⟨f,h⟩:=h;exact⟨f,R_move h hm⟩
theorem S_lower{base':Nat}(h:S d e w base ok v xs)(hb:base'<=base):S d e w base' ok v xs:=by
 obtain⟨f,h⟩:=h;exact⟨f,R_lower h hb⟩
theorem S_step(h:S d e w base ok v xs)(hm: ∀k,ok k->k<w.heap.size->w1.heap[k]? =w.heap[k]?):S d e w1 base ok v xs:=
 S_mono (S_move (S_bound h) (fun k hk=>hm k hk.1 hk.2.2.1)) (fun _ hk=>hk.1)
theorem S_below(h:S d e w base ok v xs)(hb:Below w.heap.size w w1):S d e w1 base ok v xs:=S_step h (fun k _ hk=>hb.block k hk)
theorem S_alloc(h:S d e w base ok v xs)(o:Obj):S d e (w.alloc o) base ok v xs:=S_below h (below_alloc (Below.refl _ _) o)
theorem S_drew(h:S d e w base ok v xs):S d e w.drew base ok v xs:=S_below h (below_drew (Below.refl _ _))
theorem S_drewN(h:S d e w base ok v xs)(m:Nat):S d e (w.drewN m) base ok v xs:=S_below h (pw_below_drewN (Below.refl _ _) m)
theorem S_far(h:S d e w base ok v xs){p:Addr}(hok: ∀k,ok k->k≠p.block)(u:Value):S d e (w.setCell p u) base ok v xs:=S_step h (fun k ho _=>Below.heap_setCell w p u k (hok k ho))
theorem S_types(h:S d e w base ok v xs){g t:Nat}{cells:Array Value}(hb:w.heap[g]? =some (.cells cells t (0,0)))(ht: ∀q,q∈e::d.E->q≠t):S d e w base (fun k=>ok k/\k≠g) v xs:=by
 obtain⟨f,h⟩:=h;exact⟨f,R_types h hb ht⟩
theorem S_typed(h:S d e w base ok v xs): ∀k,v.ownBlock=some k-> ∃cells,w.heap[k]? =some (.cells cells e (0,0)):=R_typed (S_R h)
theorem S_lt(h:S d e w base ok v xs): ∀k,v.ownBlock=some k->k<w.heap.size:=R_lt (S_R h)
theorem S_base(h:S d e w base ok v xs): ∀k,v.ownBlock=some k->base<=k:=R_base (S_R h)
theorem S_over'(h:S d e W base ok u xs)(hty: ∀k,v.ownBlock=some k-> ∃cells,W.heap[k]? =some (.cells cells e' (0,0)))(ht: ∀q,q∈e::d.E->q≠e')(hg:W.grownBy w1 v.ownBlock):S d e w1 base ok u xs:=by
 obtain⟨f,h⟩:=h;exact⟨f,R_over' h hty ht hg⟩
theorem S_elder'(h:S d e W base ok u xs)(hbase: ∀k,v.ownBlock=some k->W.heap.size<=k)(hb:Below W.heap.size W w1):S d e w1 base (fun k=>ok k/\some k≠v.ownBlock) u xs:=by
 obtain⟨f,h⟩:=h;exact⟨f,R_elder' h hbase hb⟩
theorem S_new'(h:S d e w1 W.heap.size ok v xs)(hlt: ∀k,u.ownBlock=some k->k<W.heap.size):S d e w1 W.heap.size (fun k=>ok k/\some k≠u.ownBlock) v xs:=by
 obtain⟨f,h⟩:=h;exact⟨f,R_new' h hlt⟩
theorem S_after{v1:Value}(h:S d e W base (fun k=>ok k/\some k≠v.ownBlock) u xs)(hg:W.grownBy w1 v.ownBlock)(hat:v1.ownBlock=v.ownBlock∨ ∃b,v1.ownBlock=some b/\W.heap.size<=b):S d e w1 base (fun k=>ok k/\some k≠v1.ownBlock) u xs:=by
 obtain⟨f,h⟩:=h;exact⟨f,R_after h hg hat⟩
theorem R_tag{f f':Nat->Nat}{zs:List (α×Nat)}(h:(tag f d).R e w base ok v zs)(hf: ∀k,ok k->k<w.heap.size->f' k=f k):(tag f' d).R e w base ok v zs:=by
 obtain⟨h0,inner,ho,hr⟩:=R_bound h;exact⟨fun k hk=>(h0 k hk).1,inner,ho,hr.1,fun j p hj=>d.M_mono (fun k hk=>⟨⟨hk.1.1.1,hk.1.2⟩,(hf k hk.1.1.1 hk.1.1.2.2.1).trans hk.2⟩) (hr.2 j p hj)⟩
end
section
variable {α β:Type} {d:Kd α} {d':Kd β} {e e' g:Nat} {w w1 W:World} {base b:Nat} {ok ok' okv oku:Nat->Prop} {u v:Value} {xs:List α} {ys:List β}
theorem S_ne(h:S d e w base ok v xs){t:Nat}{cells:Array Value}(hb:w.heap[g]? =some (.cells cells t (0,0)))(ht:e≠t):some g≠v.ownBlock:=R_ne (S_R h) hb ht
theorem S_slice(h:S d e w base ok v xs): ∃A c,v= .slice A xs.length c:=R_slice (S_R h)
theorem S_reads'{A:Option Addr}{n c:Nat}(h:S d e w base ok (.slice A n c) xs):n=xs.length/\n<=c/\d.C w A xs.length xs:=R_reads' (S_R h)
theorem S_get{ad:Addr}{n cap:Nat}(h:S d e W base ok (.slice (some ad) n cap) xs)(z:α)(i:Int)(h0:0<=i)(h1:i<n):
 ∃c,c.length=d.sz/\d.M W base (fun k=>ok k/\some k≠(Value.slice (some ad) n cap).ownBlock) (xs.getD i.toNat z) c/\ ∀j u,c[j]? =some u->W.cell? (ad.add (i.toNat*d.sz+j))=some u:=R_getA (S_R h) z i h0 h1
theorem S_elderB(h:S d e w base ok v xs)(a:Nat)(ha:w.heap.size<=a):S d e w base (fun k=>ok k/\k≠a) v xs:=S_mono (S_bound h) (fun k hk=>⟨hk.1,by have:=hk.2.2.1;omega⟩)
theorem zip_snoc(xs:List α)(p:α):(xs++ [p]).zipIdx=xs.zipIdx++ [(p,xs.length)]:=by rw[List.zipIdx_append];simp
end
section
open Classical in
theorem S_tag{α:Type}{d:Kd α}{e base:Nat}{okv:Nat->Prop}{w:World}{v:Value}{xs:List α}(h:S d e w base okv v xs)(m:Nat)(okp:Nat->Prop)(hap: ∀k,okp k-> ¬okv k): ∃f,(∀k,okp k->f k=m)/\(tag f d).R e w base okv v xs.zipIdx:=by
 obtain⟨f,h⟩:=h;exact⟨fun k=>if okp k then m else f k,fun k hk=>if_pos hk,R_tag h (fun k hk _=>if_neg (fun h2=>hap k h2 hk))⟩
variable {P:Program} {ops:Array Oper} {rest:List Oper} {o:Oper} {a:Act} {Q:Exit->Act->World->Prop} {Kc:Act->World->Prop} {α:Type}
theorem S_append(d:Kd α){w0 W:World}(base:Nat)(hgd:o.guard=none)(s x:Operand)(t e:TypeId)(z:Value)(bytes:Nat)
 (ho:o.op= .call { callee:= .builtin .append,args:= #[s,x],argTypes:= #[t,t] })
 (ht:P.underlying t=some (.slice e)) (hinfo:(P.info? e).map (fun i=>(i.zero,i.size,i.bytes))=some (some z,d.sz,bytes)) (hz:z.cells.size=d.sz) (hs0:0<d.sz) (hb0:0<bytes)
 (v:Value) (xs:List α) (p:α) (cs:List Value) (ok okp:Nat->Prop) (hs:a.eval s=v) (hx:a.eval x= .slice (some ⟨W.heap.size,0,none⟩) 1 1) (hp:d.M W base okp p cs) (hokp: ∀k,okp k->ok k/\some k≠v.ownBlock) (hfresh: ∀k,W.heap.size<=k->ok k)
 (HO:S d e W base (fun k=>ok k/\ ¬okp k) v xs) (HB:Below base w0 W) (hbase:base<=W.heap.size) (hl:(xs.length+1)*bytes<=140737488355328)
 (h: ∀v1 w1,S d e w1 base ok v1 (xs++ [p])->Below base w0 w1->W.grownBy w1 v.ownBlock->(v1.ownBlock=v.ownBlock∨ ∃b,v1.ownBlock=some b/\W.heap.size<=b)->wpList P ops Q rest (a.put o.dst v1) w1):
 wpList P ops Q (o::rest) a (W.alloc (.cells cs.toArray e)):=by
 obtain⟨f,hf,hR⟩:=S_tag HO xs.length okp (fun _ hk h2=>h2.2 hk);refine R_append (tag f d) base hgd s x t e z bytes ho ht hinfo hz hs0 hb0 v xs.zipIdx (p,xs.length) cs ok okp hs hx (d.M_mono (fun k hk=>⟨hk,hf k hk⟩) hp) hokp hfresh (R_mono hR (fun _ hk=>hk.1)) HB hbase (by rw[List.length_zipIdx];exact hl) ?_;intro v1 w1 hr;rw[<-zip_snoc]at hr
 exact h v1 w1 ⟨f,hr⟩
theorem S_append_step(d:Kd α){w0 W:World}(base:Nat)(hw:Region.wanted o (yielded ops a.tmps)=true)(s x:Operand)(t e:TypeId)(z:Value)(bytes:Nat)
 (ho:o.op= .call { callee:= .builtin .append,args:= #[s,x],argTypes:= #[t,t] })
 (ht:P.underlying t=some (.slice e)) (hinfo:(P.info? e).map (fun i=>(i.zero,i.size,i.bytes))=some (some z,d.sz,bytes)) (hz:z.cells.size=d.sz) (hs0:0<d.sz) (hb0:0<bytes)
 (v:Value) (xs:List α) (p:α) (cs:List Value) (ok okp:Nat->Prop) (hs:a.eval s=v) (hx:a.eval x= .slice (some ⟨W.heap.size,0,none⟩) 1 1) (hp:d.M W base okp p cs) (hokp: ∀k,okp k->ok k/\some k≠v.ownBlock) (hfresh: ∀k,W.heap.size<=k->ok k)
 (HO:S d e W base (fun k=>ok k/\ ¬okp k) v xs) (HB:Below base w0 W) (hbase:base<=W.heap.size) (hl:(xs.length+1)*bytes<=140737488355328)
 (h: ∀v1 w1,S d e w1 base ok v1 (xs++ [p])->Below base w0 w1->W.grownBy w1 v.ownBlock->(v1.ownBlock=v.ownBlock∨ ∃b,v1.ownBlock=some b/\W.heap.size<=b)->Kc (a.put o.dst v1) w1):
 if Region.wanted o (yielded ops a.tmps)=true then Oper.wp P o a (W.alloc (.cells cs.toArray e)) Kc Q else Kc (a.put o.dst undef) (W.alloc (.cells cs.toArray e)):=by
 obtain⟨f,hf,hR⟩:=S_tag HO xs.length okp (fun _ hk h2=>h2.2 hk);refine R_append_step (tag f d) base hw s x t e z bytes ho ht hinfo hz hs0 hb0 v xs.zipIdx (p,xs.length) cs ok okp hs hx (d.M_mono (fun k hk=>⟨hk,hf k hk⟩) hp) hokp hfresh (R_mono hR (fun _ hk=>hk.1)) HB hbase (by rw[List.length_zipIdx];exact hl) ?_;intro v1 w1 hr;rw[<-zip_snoc]at hr
 exact h v1 w1 ⟨f,hr⟩
end
def gap{α:Type}(f:Nat->Nat)(d:Kd α)(i:Nat)(c:List Value):Kd (α×Nat) where
 sz:=d.sz
 E:=d.E
 K:=fun w x cs=>(x.2=i->cs=c/\cs.length=d.sz/\ ∀u∈cs,u.oneCell'=true)/\(x.2≠i->d.K w x.1 cs)
 M:=fun w base ok x cs=>(x.2=i->cs=c/\cs.length=d.sz/\ ∀u∈cs,u.oneCell'=true)/\(x.2≠i->d.M w base (fun k=>ok k/\f k=x.2) x.1 cs)
 K_len:=fun {w x cs} h=>by
  by_cases hx:x.2=i
  case neg=>exact d.K_len (h.2 hx)
  exact(h.1 hx).2.1
 K_one:=fun {w x cs} h=>by
  by_cases hx:x.2=i
  case neg=>exact d.K_one (h.2 hx)
  exact(h.1 hx).2.2
 K_below:=fun hb h=>⟨h.1,fun hx=>d.K_below hb (h.2 hx)⟩
 K_of_M:=fun h=>⟨h.1,fun hx=>d.K_of_M (h.2 hx)⟩
 M_mono:=fun hok h=>⟨h.1,fun hx=>d.M_mono (fun k hk=>⟨hok k hk.1,hk.2⟩) (h.2 hx)⟩
 M_bound:=fun h=>⟨h.1,fun hx=>d.M_mono (fun _ hk=>⟨⟨hk.1.1,hk.2⟩,hk.1.2⟩) (d.M_bound (h.2 hx))⟩
 M_move:=fun hm h=>⟨h.1,fun hx=>d.M_move (fun k hk=>hm k hk.1) (h.2 hx)⟩
 M_lower:=fun hb h=>⟨h.1,fun hx=>d.M_lower hb (h.2 hx)⟩
def H{α:Type}(d:Kd α)(e:Nat)(w:World)(base:Nat)(ok:Nat->Prop)(v:Value)(xs:List α)(i:Int)(oki:Nat->Prop)(c:List Value):Prop:=
 (∀k,oki k->ok k)/\ ∃f,(gap f d i.toNat c).R e w base (fun k=>ok k/\ ¬oki k) v xs.zipIdx
structure Heap {α:Type} (d:Kd α):Prop where
 K: ∀ {w w1:World} {x:α} {cs:List Value},(∀k,k<w.heap.size->w1.heap[k]? =w.heap[k]?)->d.K w x cs->d.K w1 x cs
theorem cell_heap{w w1:World}(hb: ∀k,k<w.heap.size->w1.heap[k]? =w.heap[k]?){a:Addr}{v:Value}(h:w.cell? a=some v):w1.cell? a=some v:=by
 have:=hb a.block (World.block_lt_of_cell? w a h);simpa[World.cell?,this]using h
theorem Heap.C{α:Type}{d:Kd α}(hd:Heap d){w w1:World}{A:Option Addr}{n:Nat}{xs:List α}(hb: ∀k,k<w.heap.size->w1.heap[k]? =w.heap[k]?)(h:d.C w A n xs):d.C w1 A n xs:=
 ⟨h.1,h.2.1,fun hn=>by
  obtain⟨ad,e,hc⟩:=h.2.2 hn;refine⟨ad,e,fun j p hj=>?_⟩;obtain⟨c,hs,hr,hcell⟩:=hc j p hj;exact⟨c,hs,hd.K hb hr,fun i u hu=>cell_heap hb (hcell i u hu)⟩⟩
theorem heap_int(k:IntKind):Heap (Kd.int k):=⟨fun _ h=>h⟩
theorem heap_slice{α:Type}{d:Kd α}(e:Nat)(hd:Heap d):Heap (slice e d):=⟨by
 rintro w w1 x cs hb ⟨A,c,rfl,hl,hr⟩;exact⟨A,c,rfl,hl,hd.C hb hr⟩⟩
theorem heap_pair{α β:Type}{a:Kd α}{b:Kd β}(ha:Heap a)(hb':Heap b):Heap (pair a b):=⟨by
 rintro w w1 x cs hb ⟨c0,c1,rfl,h0,h1⟩;exact⟨c0,c1,rfl,ha.K hb h0,hb'.K hb h1⟩⟩
theorem heap_iso{α β:Type}{d:Kd α}(f:β->α)(hd:Heap d):Heap (iso d f):=⟨fun hb h=>hd.K hb h⟩
end Kd
def Kept(w W:World)(S:Nat->Prop):Prop:=w.heap.size<=W.heap.size/\ ∀i,i<w.heap.size-> ¬S i->W.heap[i]? =w.heap[i]?
section
variable {w W W2:World} {S S2 S':Nat->Prop}
theorem Kept.refl(w:World)(S:Nat->Prop):Kept w w S:=⟨Nat.le_refl _,fun _ _ _=>rfl⟩
theorem Kept.of_below(h:Below w.heap.size w W)(S:Nat->Prop):Kept w W S:=⟨h.size,fun i hi _=>h.block i hi⟩
theorem Kept.mono(h:Kept w W S)(hs: ∀k,S k->S' k):Kept w W S':=⟨h.1,fun i hi hn=>h.2 i hi (fun hk=>hn (hs i hk))⟩
theorem Kept.then_(h:Kept w W S)(k:Kept W W2 S2)(hs: ∀k,S2 k->S k∨w.heap.size<=k):Kept w W2 S:=
 ⟨Nat.le_trans h.1 k.1,fun i hi hn=>(k.2 i (Nat.lt_of_lt_of_le hi h.1) (fun h2=>(hs i h2).elim hn (fun h3=>by omega))).trans (h.2 i hi hn)⟩
theorem Kept.below(h:Kept w W S)(hb:Below W.heap.size W W2):Kept w W2 S:=h.then_ (Kept.of_below hb (fun _=>False)) (fun _ hk=>hk.elim)
theorem Kept.alloc(h:Kept w W S)(o:Obj):Kept w (W.alloc o) S:=h.below (below_alloc (Below.refl _ _) o)
theorem Kept.drew(h:Kept w W S):Kept w W.drew S:=h
theorem Kept.drewN(h:Kept w W S)(m:Nat):Kept w (W.drewN m) S:=h
theorem Kept.setCell(h:Kept w W S){p:Addr}(hp:S p.block∨w.heap.size<=p.block)(u:Value):Kept w (W.setCell p u) S:=
 h.then_ (S2:=fun k=>k=p.block) ⟨by simp[World.setCell],fun i _ hn=>Below.heap_setCell W p u i hn⟩ (fun k hk=>by rw[hk];exact hp)
theorem Kept.keep{g:Nat}(h:KeepBut w W g none)(k:Kept W W2 S2)(hs: ∀k,S2 k->w.heap.size<=k):KeepBut w W2 g none:=
 ⟨Nat.le_trans h.1 k.1,fun i hi hg hr=>(k.2 i (Nat.lt_of_lt_of_le hi h.1) (fun h2=>by have:=hs i h2;omega)).trans (h.2 i hi hg hr)⟩
theorem cell_kept{a:Addr}{v:Value}(hc:W.cell? a=some v)(hk:Kept W W2 S)(hne: ¬S a.block):W2.cell? a=some v:=by
 have:=hk.2 a.block (World.block_lt_of_cell? W a hc) hne;simpa[World.cell?,this]using hc
end
namespace Kd
end Kd
def Foot(P:World->Prop)(W:World)(ok:Nat->Prop):Prop:= ∀W':World,(∀k,ok k->k<W.heap.size->W'.heap[k]? =W.heap[k]?)->P W'
theorem heap_lt{W W1:World}{k:Nat}(h:W1.heap[k]? =W.heap[k]?)(hlt:k<W.heap.size):k<W1.heap.size:=by
 rw[Array.getElem?_eq_getElem hlt]at h
 exact(Array.getElem?_eq_some_iff.1 h).1
namespace Foot
variable {P Q:World->Prop} {W W1:World} {ok ok':Nat->Prop}
theorem now(h:Foot P W ok):P W:=h W (fun _ _ _=>rfl)
theorem mono(h:Foot P W ok)(hok: ∀k,ok k->ok' k):Foot P W ok':=fun W' hW=>h W' (fun k hk hlt=>hW k (hok k hk) hlt)
theorem bound(h:Foot P W ok):Foot P W (fun k=>ok k/\k<W.heap.size):=fun W' hW=>h W' (fun k hk hlt=>hW k ⟨hk,hlt⟩ hlt)
theorem step(h:Foot P W ok)(hm: ∀k,ok k->k<W.heap.size->W1.heap[k]? =W.heap[k]?):Foot P W1 ok:=fun W' hW=>h W' (fun k hk hlt=>(hW k hk (heap_lt (hm k hk hlt) hlt)).trans (hm k hk hlt))
theorem imp(h:Foot P W ok)(hi: ∀W',P W'->Q W'):Foot Q W ok:=fun W' hW=>hi W' (h W' hW)
theorem old(h:Foot P W ok)(hb:Below W.heap.size W W1):Foot P W1 (fun k=>ok k/\k<W.heap.size):=(h.bound).step (fun k _ hlt=>hb.block k hlt)
end Foot
namespace Kd
def F{α:Type}(d:Kd α)(W:World)(ok:Nat->Prop)(A:Option Addr)(n:Nat)(xs:List α):Prop:=Foot (fun W=>d.C W A n xs) W ok
def FK{α:Type}(d:Kd α)(W:World)(ok:Nat->Prop)(x:α)(c:List Value):Prop:=Foot (fun W=>d.K W x c) W ok
section
variable {α β:Type} {d:Kd α} {e base n n' cc g N:Nat} {ok ok' okp S:Nat->Prop} {w w0 w1 W W1:World} {A A':Option Addr} {u v v1:Value} {xs:List α} {xs':List β} {d':Kd β} {x:α} {c:List Value}
theorem F_now(h:F d W ok A n xs):d.C W A n xs:=Foot.now h
theorem F_mono(h:F d W ok A n xs)(hok: ∀k,ok k->ok' k):F d W ok' A n xs:=Foot.mono h hok
theorem F_bound(h:F d W ok A n xs):F d W (fun k=>ok k/\k<W.heap.size) A n xs:=Foot.bound h
theorem F_step(h:F d W ok A n xs)(hm: ∀k,ok k->k<W.heap.size->W1.heap[k]? =W.heap[k]?):F d W1 ok A n xs:=Foot.step h hm
theorem F_below(h:F d W ok A n xs)(hb:Below W.heap.size W W1):F d W1 ok A n xs:=F_step h (fun k _ hlt=>hb.block k hlt)
theorem F_alloc(h:F d W ok A n xs)(o:Obj):F d (W.alloc o) ok A n xs:=F_below h (below_alloc (Below.refl _ _) o)
theorem F_drew(h:F d W ok A n xs):F d W.drew ok A n xs:=F_below h (below_drew (Below.refl _ _))
theorem F_drewN(h:F d W ok A n xs)(m:Nat):F d (W.drewN m) ok A n xs:=F_below h (pw_below_drewN (Below.refl _ _) m)
theorem F_far(h:F d W ok A n xs){p:Addr}(hok: ∀k,ok k->k≠p.block)(u:Value):F d (W.setCell p u) ok A n xs:=F_step h (fun k hk _=>Below.heap_setCell W p u k (hok k hk))
theorem F_nil(d:Kd α)(W:World)(ok:Nat->Prop):F d W ok none ([]:List α).length []:=fun W' _=>C_nil d W'
theorem F_elder'(h:F d W ok A n xs)(hbase: ∀k,v.ownBlock=some k->W.heap.size<=k)(hb:Below W.heap.size W W1):F d W1 (fun k=>ok k/\some k≠v.ownBlock) A n xs:=
 F_mono (Foot.old h hb) (fun k hk=>⟨hk.1,fun he=>by have:=hbase k he.symm;have:=hk.2;omega⟩)
theorem F_after(h:F d W (fun k=>ok k/\some k≠v.ownBlock) A n xs)(hg:W.grownBy W1 v.ownBlock)(hat:v1.ownBlock=v.ownBlock∨ ∃b,v1.ownBlock=some b/\W.heap.size<=b):F d W1 (fun k=>ok k/\some k≠v1.ownBlock) A n xs:=by
 refine F_mono (Foot.step (F_bound h) (fun k hk hlt=>hg.block k hlt hk.1.2)) (fun k hk=>⟨hk.1.1,?_⟩);rcases hat with hat|⟨b,hb,hle⟩
 ·rw[hat];exact hk.1.2
 ·rw[hb];intro he;injection he with he;have:=hk.2;omega
theorem C_F(hd:Heap d)(h:d.C w A n xs):F d w (fun k=>k<w.heap.size) A n xs:=fun _ hW=>hd.C (fun k hlt=>hW k hlt hlt) h
theorem R_F(h:d.R e W base ok (.slice A n cc) xs):F d W ok A n xs:=fun W' hW=>by
 have h2:=R_reads' (R_step h hW);rw[h2.1];exact h2.2.2
theorem FK_now(h:FK d W ok x c):d.K W x c:=Foot.now h
theorem FK_mono(h:FK d W ok x c)(hok: ∀k,ok k->ok' k):FK d W ok' x c:=Foot.mono h hok
theorem FK_bound(h:FK d W ok x c):FK d W (fun k=>ok k/\k<W.heap.size) x c:=Foot.bound h
theorem FK_step(h:FK d W ok x c)(hm: ∀k,ok k->k<W.heap.size->W1.heap[k]? =W.heap[k]?):FK d W1 ok x c:=Foot.step h hm
theorem FK_of_M(h:d.M W base ok x c):FK d W ok x c:=fun _ hW=>d.K_of_M (M_step h hW)
end
end Kd
end Go.Proofs.YtnfemjnajfdepaaW.PrintWords
namespace Go.Proofs.YtnfemjnajfdepaaW.PrintWords
open RowKit
namespace Kd
def chunks(sz:Nat)(n:Nat)(inner:List Value):List (List Value):=(List.range n).map fun j=>(inner.drop (j*sz)).take sz
theorem chunks_length(sz n:Nat)(inner:List Value):(chunks sz n inner).length=n:=by simp[chunks]
theorem chunks_at{sz n:Nat}{inner:List Value}{j:Nat}(hj:j<n):(chunks sz n inner)[j]? =some ((inner.drop (j*sz)).take sz):=by simp[chunks,hj]
theorem chunks_get{sz n:Nat}{inner:List Value}{j:Nat}{c:List Value}(h:(chunks sz n inner)[j]? =some c):c=(inner.drop (j*sz)).take sz:=by
 have hj:j<n:=by have:=(List.getElem?_eq_some_iff.1 h).1;rwa [chunks_length]at this
 rw[chunks_at hj]at h
 injection h with h;exact h.symm
theorem reps_raw{α:Type}{Rr:α->List Value->Prop}{sz:Nat}{xs:List α}{inner:List Value}(h:Reps Rr sz xs inner)(hR: ∀x c,Rr x c->c.length=sz/\ ∀u∈c,u.oneCell'=true):Reps (fun x cs=>cs=x/\cs.length=sz/\ ∀u∈cs,u.oneCell'=true) sz (chunks sz xs.length inner) inner:=by
 refine⟨by rw[chunks_length];exact h.1,fun j p hj=>?_⟩;have hjl:j<xs.length:=by have:=(List.getElem?_eq_some_iff.1 hj).1;rwa [chunks_length]at this
 have hp:=chunks_get hj;exact⟨hp.symm,hR _ _ (h.2 j _ (List.getElem?_eq_getElem hjl))⟩
section
variable {α:Type} {d:Kd α} {e base n cc g:Nat} {ok ok' okp S:Nat->Prop} {w w1 W W1:World} {A:Option Addr} {u v v1:Value} {xs:List α} {x:α} {c:List Value}
def N{α:Type}(d:Kd α)(e:Nat)(w:World)(base:Nat)(ok:Nat->Prop)(v:Value)(xs:List α):Prop:=
 (∀k,v.ownBlock=some k->ok k)/\ ∃rows:List (List Value),rows.length=xs.length/\(raw d.sz).R e w base (fun k=>some k=v.ownBlock) v rows/\ ∀(j:Nat) (x:α) (c:List Value),xs[j]? =some x->rows[j]? =some c->FK d w (fun k=>ok k/\some k≠v.ownBlock) x c
theorem raw_tight{sz:Nat}{rows:List (List Value)}(h:(raw sz).R e w base ok v rows):(raw sz).R e w base (fun k=>some k=v.ownBlock) v rows:=R_tight rfl h
theorem R_N(h:d.R e w base ok v xs):N d e w base ok v xs:=by
 obtain⟨h0,inner,ho,hr⟩:=h;refine⟨h0,chunks d.sz xs.length inner,chunks_length _ _ _,⟨fun k hk=>hk.symm,inner,by rw[chunks_length];exact ho,reps_raw hr (fun x c hp=>⟨d.K_len (d.K_of_M hp),d.K_one (d.K_of_M hp)⟩)⟩,fun j x c hx hc=>?_⟩;rw[chunks_get hc];exact FK_of_M (hr.2 j x hx)
theorem N_nil(d:Kd α)(e:Nat)(w:World)(base:Nat)(ok:Nat->Prop):N d e w base ok (.slice none 0 0) []:=R_N (R_nil _ _ _ _ _)
theorem N_mono(h:N d e w base ok v xs)(hok: ∀k,ok k->ok' k):N d e w base ok' v xs:=by
 obtain⟨h0,rows,hl,hR,hf⟩:=h;exact⟨fun k hk=>hok k (h0 k hk),rows,hl,hR,fun j x c hx hc=>FK_mono (hf j x c hx hc) (fun k hk=>⟨hok k hk.1,hk.2⟩)⟩
theorem N_lt(h:N d e w base ok v xs): ∀k,v.ownBlock=some k->k<w.heap.size:=by
 obtain⟨_,rows,_,hR,_⟩:=h;exact R_lt hR
theorem N_bound(h:N d e w base ok v xs):N d e w base (fun k=>ok k/\k<w.heap.size) v xs:=by
 have hlt:=N_lt h;obtain⟨h0,rows,hl,hR,hf⟩:=h;exact⟨fun k hk=>⟨h0 k hk,hlt k hk⟩,rows,hl,hR,fun j x c hx hc=>FK_mono (FK_bound (hf j x c hx hc)) (fun k hk=>⟨⟨hk.1.1,hk.2⟩,hk.1.2⟩)⟩
theorem N_lower{base':Nat}(h:N d e w base ok v xs)(hb:base'<=base):N d e w base' ok v xs:=by
 obtain⟨h0,rows,hl,hR,hf⟩:=h;exact⟨h0,rows,hl,R_lower hR hb,hf⟩
theorem N_step(h:N d e w base ok v xs)(hm: ∀k,ok k->k<w.heap.size->w1.heap[k]? =w.heap[k]?):N d e w1 base ok v xs:=by
 obtain⟨h0,rows,hl,hR,hf⟩:=h;exact⟨h0,rows,hl,R_step hR (fun k hk hlt=>hm k (h0 k hk.symm) hlt),fun j x c hx hc=>FK_step (hf j x c hx hc) (fun k hk hlt=>hm k hk.1 hlt)⟩
theorem N_below(h:N d e w base ok v xs)(hb:Below w.heap.size w w1):N d e w1 base ok v xs:=N_step h (fun k _ hk=>hb.block k hk)
theorem N_alloc(h:N d e w base ok v xs)(o:Obj):N d e (w.alloc o) base ok v xs:=N_below h (below_alloc (Below.refl _ _) o)
theorem N_drew(h:N d e w base ok v xs):N d e w.drew base ok v xs:=N_below h (below_drew (Below.refl _ _))
theorem N_drewN(h:N d e w base ok v xs)(m:Nat):N d e (w.drewN m) base ok v xs:=N_below h (pw_below_drewN (Below.refl _ _) m)
theorem N_elder'(h:N d e W base ok v xs)(hbase: ∀k,u.ownBlock=some k->W.heap.size<=k)(hb:Below W.heap.size W w1):N d e w1 base (fun k=>ok k/\some k≠u.ownBlock) v xs:=
 N_mono (N_below (N_bound h) hb) (fun k hk=>⟨hk.1,fun he=>by have:=hbase k he.symm;have:=hk.2;omega⟩)
theorem N_elderB(h:N d e w base ok v xs)(a:Nat)(ha:w.heap.size<=a):N d e w base (fun k=>ok k/\k≠a) v xs:=N_mono (N_bound h) (fun k hk=>⟨hk.1,by have:=hk.2;omega⟩)
theorem N_slice(h:N d e w base ok v xs): ∃A c,v= .slice A xs.length c:=by
 obtain⟨_,rows,hl,hR,_⟩:=h;obtain⟨A,c,he⟩:=R_slice hR;exact⟨A,c,by rw[he,hl]⟩
theorem N_reads'{n c:Nat}(h:N d e w base ok (.slice A n c) xs):n=xs.length/\n<=c/\d.C w A xs.length xs:=by
 obtain⟨_,rows,hl,hR,hf⟩:=h;obtain⟨hn,hc,hC⟩:=R_reads' hR;refine⟨by omega,hc,?_⟩;rw[hl]at hC
 refine⟨rfl,hC.2.1,fun hp=>?_⟩;obtain⟨ad,he,hcell⟩:=hC.2.2 hp;refine⟨ad,he,fun j p hj=>?_⟩;have hjl:j<rows.length:=by have:=(List.getElem?_eq_some_iff.1 hj).1;omega
 obtain⟨c',hcl,hK,hcc⟩:=hcell j _ (List.getElem?_eq_getElem hjl);have hk:=FK_now (hf j p _ hj (List.getElem?_eq_getElem hjl));refine⟨c',hcl,?_,hcc⟩;rw[show c'=rows[j]from hK.1];exact hk
end
end Kd
section
variable {P:Program} {d:Nat} {xs ys:Array Value} {f:Field} {fs:List Field} {a b:Value} {r s:Bool} {w:World}
theorem eqf_last(hn:(f.name== "_")=false)(ha:(part f.type xs f.offset).run P w= .ok a w)(hb:(part f.type ys f.offset).run P w= .ok b w)(he:(Op.equalIn d f.type a b).run P w= .ok r w):(Op.eqFields d xs ys [f]).run P w= .ok r w:=by
 have hn':f.name≠ "_" :=by simpa using hn
 simp only[Op.eqFields,if_pos hn',Sem.run_bind,ha,hb,he,Result.andThen_ok]
 cases r<;>simp
theorem eqf_cons(hn:(f.name== "_")=false)(ha:(part f.type xs f.offset).run P w= .ok a w)(hb:(part f.type ys f.offset).run P w= .ok b w)(he:(Op.equalIn d f.type a b).run P w= .ok r w)(hr:(Op.eqFields d xs ys fs).run P w= .ok s w):(Op.eqFields d xs ys (f::fs)).run P w= .ok (r&&s) w:=by
 have hn':f.name≠ "_" :=by simpa using hn
 rw[Op.eqFields];simp only[if_pos hn',Sem.run_bind,ha,hb,he,Result.andThen_ok]
 cases r
 ·simp
 ·simpa using hr
theorem eqA_of{t:TypeId}{fs:Array Field}(hu:P.underlying t=some (.struct fs))(hp:P.stoodInHeld t=false)(h:(Op.eqFields d xs ys fs.toList).run P w= .ok r w):(Op.equalIn (d+1) t (.agg xs) (.agg ys)).run P w= .ok r w:=by
 have hf:P.fieldsOf t=fs:=by simp[Program.fieldsOf,hu]
 rw[run_equalIn_struct (P:=P) w d t xs ys (by rw[hf];exact hu) hp,hf];exact h
end
end Go.Proofs.YtnfemjnajfdepaaW.PrintWords
namespace Go.Proofs.YtnfemjnajfdepaaW.PrintLast
open YtnfemjnajfdepaaW.PrintWords (Aside0)
def needsOf(md:Region.Mode)(o:Oper):List Nat:=(o.after.toList.filter (fun e=>Region.binds md e)).map (fun e=>e.on)
def clashOf(md:Region.Mode)(ops:Array Oper)(i:Nat)(oi:Oper):List Nat:=(List.range ops.size).filter fun j=> !(j==i)&&match ops[j]? with
 |some oj=> !(oj.after.any (fun e=>Region.binds md e&&e.on==i)||oi.apart ops oj)
 |none=>false
def rtab(md:Region.Mode)(ops:Array Oper):Bool×List (List Nat×List Nat):=(Region.noSelect ops,(List.range ops.size).map fun i=>match ops[i]? with
 |some o=>(needsOf md o,clashOf md ops i o)
 |none=>([],[]))
def readyAt(T:List (List Nat×List Nat))(l:List Bool)(i:Nat):Bool:= !l.getD i true&&match T[i]? with
 |some r=>r.1.all (fun j=>l.getD j false)
 |none=>false
def readyT(T:List (List Nat×List Nat))(l:List Bool):List Nat:=(List.range T.length).filter (readyAt T l)
def freeT(T:List (List Nat×List Nat))(l:List Bool)(i:Nat):Bool:=match T[i]? with
 |some r=>r.2.all (fun j=>l.getD j true)
 |none=>false
def closedT(T:List (List Nat×List Nat))(l:List Bool):Bool:=(List.range T.length).all fun j=> !l.getD j false||match T[j]? with
 |some r=>r.1.all (fun k=>l.getD k false)
 |none=>true
def reachT(T:List (List Nat×List Nat))(i:Nat):Nat->Nat->Bool
 |0,_=>false
 |fuel+1,d=>match T[d]? with
  |some r=>r.1.any fun j=>j==i||reachT T i fuel j
  |none=>false
def lastT(T:List (List Nat×List Nat))(l:List Bool)(ds:List Nat)(i:Nat):Bool:=ds.all fun d=>l.getD d true||reachT T i T.length d
section
variable {md:Region.Mode} {ops:Array Oper} {T:Bool×List (List Nat×List Nat)} {l l' li lj lk:Array Bool} {ds:List Nat} {i j k:Nat}
theorem gd(l:Array Bool)(j:Nat)(b:Bool):l.getD j b=l.toList.getD j b:=by simp[Array.getD_eq_getD_getElem?,List.getD_eq_getElem?_getD]
theorem needs_all(o:Oper)(p:Nat->Bool):o.after.all (fun e=> !Region.binds md e||p e.on)=(needsOf md o).all p:=by
 unfold needsOf;rw[<-Array.all_toList]
 induction o.after.toList with
 |nil=>rfl
 |cons e r ih=>
  rw[List.all_cons,ih,List.filter_cons]
  cases h:Region.binds md e<;>simp
theorem needs_any(o:Oper)(p:Nat->Bool):o.after.any (fun e=>Region.binds md e&&p e.on)=(needsOf md o).any p:=by
 unfold needsOf;rw[<-Array.any_toList]
 induction o.after.toList with
 |nil=>rfl
 |cons e r ih=>
  rw[List.any_cons,ih,List.filter_cons]
  cases h:Region.binds md e<;>simp
theorem rtab_length:(rtab md ops).2.length=ops.size:=by simp[rtab]
theorem rtab_some{o:Oper}(h:ops[i]? =some o):(rtab md ops).2[i]? =some (needsOf md o,clashOf md ops i o):=by
 have hi:=(Array.getElem?_eq_some_iff.1 h).1;unfold rtab;rw[List.getElem?_map,List.getElem?_range hi,Option.map_some,h]
theorem rtab_none(h:ops[i]? =none):(rtab md ops).2[i]? =none:=by
 have hi:ops.size<=i:=Array.getElem?_eq_none_iff.1 h;exact List.getElem?_eq_none (by rw[rtab_length];exact hi)
theorem readyAt_eq:readyAt (rtab md ops).2 l.toList i=(!l.getD i true&&((ops[i]?).map (·.after.all fun e=> !Region.binds md e||l.getD e.on false)).getD false):=by
 unfold readyAt;rw[gd]
 cases h:ops[i]? with
 |none=>rw[rtab_none h];rfl
 |some o=>
  rw[rtab_some h];simp only[Option.map_some,Option.getD_some];rw[<-needs_all];simp only[gd]
theorem ready_eq:Region.ready md ops l=readyT (rtab md ops).2 l.toList:=by
 unfold Region.ready readyT;rw[rtab_length];refine List.filter_congr (fun i _=>?_);rw[readyAt_eq]
theorem free_eq:Region.free md ops l i=freeT (rtab md ops).2 l.toList i:=by
 unfold Region.free freeT
 cases h:ops[i]? with
 |none=>rw[rtab_none h]
 |some oi=>
  rw[rtab_some h];simp only[clashOf];rw[List.all_filter]
  congr 1
  funext j
  rw[gd]
  cases hj:ops[j]? with
  |none=>cases (j==i)<;>cases (l.toList.getD j true)<;>simp
  |some oj=>
   cases (j==i)<;>cases (l.toList.getD j true)<;>cases (oj.after.any (fun e=>Region.binds md e&&e.on==i)||oi.apart ops oj)<;>simp_all
theorem closed_eq:Region.closedB md ops l=closedT (rtab md ops).2 l.toList:=by
 unfold Region.closedB closedT;rw[rtab_length]
 congr 1
 funext j
 rw[gd]
 cases h:ops[j]? with
 |none=>rw[rtab_none h]
 |some o=>
  rw[rtab_some h];simp only;rw[<-needs_all];simp only[gd]
theorem reach_eq: ∀(fuel d:Nat),Region.reachB md ops i fuel d=reachT (rtab md ops).2 i fuel d
 |0,_=>rfl
 |fuel+1,d=>by
  unfold Region.reachB reachT
  cases h:ops[d]? with
  |none=>rw[rtab_none h]
  |some o=>
   rw[rtab_some h];simp only;rw[<-needs_any]
   congr 1
   funext e
   rw[reach_eq fuel]
theorem last_eq:Region.lastB md ops l ds i=lastT (rtab md ops).2 l.toList ds i:=by
 unfold Region.lastB lastT;rw[rtab_length]
 congr 1
 funext d
 rw[gd,reach_eq]
theorem readyAt_mem(h:readyAt T.2 l.toList i=true)(hT:rtab md ops=T):(Region.ready md ops l).contains i=true:=by
 subst hT;rw[ready_eq];unfold readyT;rw[List.contains_iff_mem,List.mem_filter,List.mem_range];refine⟨?_,h⟩;unfold readyAt at h;rw[Bool.and_eq_true]at h
 cases hq:(rtab md ops).2[i]? with
 |none=>rw[hq]at h;simp at h
 |some r=>exact(List.getElem?_eq_some_iff.1 hq).1
theorem set_of(h:(l.toList.set i true==l'.toList)=true):(l.setIfInBounds i true==l')=true:=by
 rw[beq_iff_eq]at h⊢
 apply Array.ext';rw[Array.toList_setIfInBounds];exact h
def anyT(T:Bool×List (List Nat×List Nat))(l l':List Bool)(i:Nat):Bool:=T.1&&freeT T.2 l i&&readyAt T.2 l i&&(l.set i true==l')
theorem any_of(hT:rtab md ops=T)(h:anyT T l.toList l'.toList i=true):anyB md ops l l' i=true:=by
 simp only[anyT,Bool.and_eq_true]at h;obtain⟨⟨⟨h1,h2⟩,h3⟩,h4⟩:=h;have h5:=readyAt_mem h3 hT;have h6:=set_of h4;subst hT;simp only[anyB,Bool.and_eq_true];exact⟨⟨⟨h1,by rw[free_eq];exact h2⟩,h5⟩,h6⟩
def takeT(T:Bool×List (List Nat×List Nat))(ds:List Nat)(l l':List Bool)(i:Nat):Bool:=T.1&&freeT T.2 l i&&readyAt T.2 l i&&closedT T.2 l&&lastT T.2 l ds i&&(l.set i true==l')
theorem take_of(hT:rtab md ops=T)(h:takeT T ds l.toList l'.toList i=true):takeB md ops ds l l' i=true:=by
 simp only[takeT,Bool.and_eq_true]at h;obtain⟨⟨⟨⟨⟨h1,h2⟩,h3⟩,h4⟩,h5⟩,h6⟩:=h;have h7:=readyAt_mem h3 hT;have h8:=set_of h6;subst hT;simp only[takeB,Bool.and_eq_true];exact⟨⟨⟨⟨⟨h1,by rw[free_eq];exact h2⟩,h7⟩,by rw[closed_eq];exact h4⟩,by rw[last_eq];exact h5⟩,h8⟩
theorem one_of(hT:rtab md ops=T)(h:(readyT T.2 l.toList== [i]&&l.toList.set i true==l'.toList)=true):readyB md ops l l' i=true:=by
 simp only[Bool.and_eq_true]at h;obtain⟨h1,h2⟩:=h;subst hT;simp only[readyB,Bool.and_eq_true];exact⟨by rw[ready_eq];exact h1,set_of h2⟩
theorem two_of(hT:rtab md ops=T)(h:(readyT T.2 l.toList== [i,j]&&l.toList.set i true==li.toList&&l.toList.set j true==lj.toList)=true):(Region.ready md ops l== [i,j]&&l.setIfInBounds i true==li&&l.setIfInBounds j true==lj)=true:=by
 simp only[Bool.and_eq_true]at h⊢;obtain⟨⟨h1,h2⟩,h3⟩:=h;subst hT;exact⟨⟨by rw[ready_eq];exact h1,set_of h2⟩,set_of h3⟩
theorem done_of(hT:rtab md ops=T)(h:(readyT T.2 l.toList== [])=true):(Region.ready md ops l== [])=true:=by
 subst hT;rw[ready_eq];exact h
def upM(B:List Nat)(d:Nat):List Nat->Nat
 | []=>0
 |n::r=>(2^n|||(if n<d then B.getD n 0 else 0))|||upM B d r
def waitsOk(T:List (List Nat×List Nat))(B:List Nat):Bool:=(List.range T.length).all fun d=>match T[d]? with
 |some r=>(B.getD d 0|||upM B d r.1)==upM B d r.1
 |none=>false
theorem upM_bit{B:List Nat}{d i:Nat} : ∀ {ns:List Nat},(upM B d ns).testBit i=true-> ∃n∈ns,n=i∨(n<d/\(B.getD n 0).testBit i=true)
 | [],h=>by simp[upM]at h
 |n::r,h=>by
  unfold upM at h;rw[Nat.testBit_or,Nat.testBit_or,Bool.or_eq_true,Bool.or_eq_true]at h
  rcases h with(h|h)|h
  ·rw[Nat.testBit_two_pow]at h
   exact⟨n,List.mem_cons_self,.inl (by simpa using h)⟩
  ·by_cases hn:n<d
   case neg=>rw[if_neg hn]at h;simp at h
   rw[if_pos hn]at h
   exact⟨n,List.mem_cons_self,.inr ⟨hn,h⟩⟩
  ·obtain⟨m,hm,h2⟩:=upM_bit h;exact⟨m,List.mem_cons_of_mem _ hm,h2⟩
theorem reach_bit{T:List (List Nat×List Nat)}{B:List Nat}(hB:waitsOk T B=true): ∀(fuel d:Nat),d<fuel->d<T.length->(B.getD d 0).testBit i=true->reachT T i fuel d=true
 |0,d,h,_,_=>by omega
 |fuel+1,d,h,hd,hb=>by
  have h1:=List.all_eq_true.1 hB d (List.mem_range.2 hd)
  cases hr:T[d]? with
  |none=>rw[hr]at h1;simp at h1
  |some r=>
   rw[hr]at h1
   simp only[beq_iff_eq]at h1;have h2:(upM B d r.1).testBit i=true:=by rw[<-h1,Nat.testBit_or,hb,Bool.true_or]
   obtain⟨n,hn,h3⟩:=upM_bit h2;unfold reachT;rw[hr];simp only;rw[List.any_eq_true];refine⟨n,hn,?_⟩;rcases h3 with rfl|⟨h4,h5⟩
   ·simp
   ·rw[reach_bit hB fuel n (by omega) (by omega) h5,Bool.or_true]
def lastW(T:List (List Nat×List Nat))(B:List Nat)(l:List Bool)(ds:List Nat)(i:Nat):Bool:=ds.all fun d=>l.getD d true||(decide (d<T.length)&&(B.getD d 0).testBit i)
def takeW(T:Bool×List (List Nat×List Nat))(B:List Nat)(ds:List Nat)(l l':List Bool)(i:Nat):Bool:=T.1&&freeT T.2 l i&&readyAt T.2 l i&&closedT T.2 l&&lastW T.2 B l ds i&&(l.set i true==l')
theorem take_ofW{B:List Nat}(hT:rtab md ops=T)(hB:waitsOk T.2 B=true)(h:takeW T B ds l.toList l'.toList i=true):takeB md ops ds l l' i=true:=by
 refine take_of hT ?_;simp only[takeW,takeT,Bool.and_eq_true]at h⊢;obtain⟨⟨⟨⟨⟨h1,h2⟩,h3⟩,h4⟩,h5⟩,h6⟩:=h;refine⟨⟨⟨⟨⟨h1,h2⟩,h3⟩,h4⟩,?_⟩,h6⟩;unfold lastW at h5;unfold lastT;rw[List.all_eq_true]at h5⊢
 intro d hd;have h7:=h5 d hd;rw[Bool.or_eq_true,Bool.and_eq_true,decide_eq_true_eq]at h7
 rcases h7 with h7|⟨h8,h9⟩
 ·rw[h7,Bool.true_or]
 ·rw[reach_bit hB _ d h8 h8 h9,Bool.or_true]
theorem with_tabW{P:Program}{Q:Exit->Act->World->Prop}{S:World->Prop}{n:Nat}{a:Act}{w:World}{B:List Nat}(hT:rtab md ops=T)(hB:waitsOk T.2 B=true)(h:Aside0 (rtab md ops=T)->Aside0 (waitsOk T.2 B=true)->wpAnyLast P md ops Q S ds n l a w):wpAnyLast P md ops Q S ds n l a w:=h ⟨hT⟩ ⟨hB⟩
end
def opsIn:Code->Nat->Option (Array Oper)
 | .region id ops _,k=>if id==k then some ops else none
 | .seq a b,k=>match opsIn a k with
   |some o=>some o
   |none=>opsIn b k
 | .cond _ a b,k=>match opsIn a k with
   |some o=>some o
   |none=>opsIn b k
 | .block _ c,k=>opsIn c k
 | .loop c,k=>opsIn c k
 | .scope c,k=>opsIn c k
 | .rangeFunc _ _ a b,k=>match opsIn a k with
   |some o=>some o
   |none=>opsIn b k
 |_,_=>none
def opsOf(f:Func)(k:Nat):Array Oper:=((f.body.bind fun c=>opsIn c k)).getD #[]
end Go.Proofs.YtnfemjnajfdepaaW.PrintLast
namespace Go.Proofs.YtnfemjnajfdepaaW.PrintWords
open RowKit
section
variable {P:Program} {ops:Array Oper} {rest:List Oper} {o:Oper} {a:Act} {Q:Exit->Act->World->Prop} {W:World}
theorem gate_guard(hw:Region.wanted o (yielded ops a.tmps)=true)(h:wpList P ops Q ({ o with guard:=none } ::rest) a W):wpList P ops Q (o::rest) a W:=by
 have h1:Region.wanted { o with guard:=none } (yielded ops a.tmps)=true:=rfl;unfold wpList at h⊢;rw[if_pos h1]at h
 rw[if_pos hw];exact h
end
end Go.Proofs.YtnfemjnajfdepaaW.PrintWords
namespace Go.Proofs.YtnfemjnajfdepaaW.PrintLast
def up(b:Nat->Bool)(i:Nat):Nat->Bool:=fun j=>if j=i then true else b j
end Go.Proofs.YtnfemjnajfdepaaW.PrintLast
namespace Go.Proofs.YtnfemjnajfdepaaW.PrintWords
open RowKit
namespace Kd
section
variable {α:Type} {d:Kd α} {e base n cap g:Nat} {ok ok' okp:Nat->Prop} {w w1 W:World} {v v1:Value} {xs ys:List α}
theorem N_made{rows:List (List Value)}(hR:(raw d.sz).R e w1 base (fun k=>k=W.heap.size) v1 rows)(hg:W.grownBy w1 none)(hat: ∃b,v1.ownBlock=some b/\W.heap.size<=b)(hl:rows.length=xs.length)(hf: ∀(j:Nat) (x:α) (c:List Value),xs[j]? =some x->rows[j]? =some c->FK d W okp x c)
 (hok: ∀k,okp k->ok k) (hfresh:ok W.heap.size):N d e w1 base ok v1 xs:=by
 obtain⟨b,hb,hle⟩:=hat;refine⟨fun k hk=>by rw[hR.1 k hk];exact hfresh,rows,hl,raw_tight hR,fun j x c hx hc=>?_⟩;refine FK_mono (FK_step (FK_bound (hf j x c hx hc)) (fun k hk hlt=>hg.block k hlt (by simp))) (fun k hk=>⟨hok k hk.1,fun he=>?_⟩);rw[hb]at he
 injection he with he;have:=hk.2;omega
end
section
variable {P:Program} {ops:Array Oper} {rest:List Oper} {o:Oper} {a:Act} {Q:Exit->Act->World->Prop} {Kc:Act->World->Prop} {α:Type}
theorem N_lit(d:Kd α){w0 W:World}(base e:Nat)(hgd:o.guard=none){N':Tmp}(_hd:o.dst=some N'){xs:List α}{inner:List Value}{ok okp:Nat->Prop}
 (hrun:(execOp a.eval o).run P W= .ok (.value (.slice (some ⟨W.heap.size,0,none⟩) xs.length xs.length)) (W.alloc (.cells inner.toArray e)))
 (hrep:Reps (FK d W okp) d.sz xs inner) (hok: ∀k,okp k->ok k) (hfresh:ok W.heap.size) (HB:Below base w0 W) (hbase:base<=W.heap.size) (hm:xs.length<=9223372036854775807)
 (h: ∀v1 w1,N d e w1 base ok v1 xs->Below base w0 w1->W.grownBy w1 none->(∃b,v1.ownBlock=some b/\W.heap.size<=b)->wpList P ops Q rest (a.put o.dst v1) w1):
 wpList P ops Q (o::rest) a W:=by
 refine R_lit (raw d.sz) base e hgd _hd (xs:=chunks d.sz xs.length inner) (inner:=inner) (ok:=fun k=>k=W.heap.size) (okp:=fun _=>False) (by rw[chunks_length];exact hrun) (reps_raw hrep (fun y c hk=>⟨d.K_len (FK_now hk),d.K_one (FK_now hk)⟩)) (fun _ hk=>hk.elim) rfl HB hbase (by rw[chunks_length];exact hm) ?_;intro v1 w1 hr hb hg hat;exact h v1 w1 (N_made hr hg hat (chunks_length _ _ _) (fun j y c hy hc=>by rw[chunks_get hc];exact hrep.2 j y hy) hok hfresh) hb hg hat
end
end Kd
end Go.Proofs.YtnfemjnajfdepaaW.PrintWords
namespace Go.Proofs.YtnfemjnajfdepaaW.PrintMore
open RowKit YtnfemjnajfdepaaW.PrintWords
namespace Kd
open YtnfemjnajfdepaaW.PrintWords.Kd
section
variable {α:Type} {d:Kd α} {e base g N:Nat} {ok:Nat->Prop} {W w1:World} {u v:Value} {xs:List α}
theorem R_old(hu:d.R e W base ok u xs)(hb:Below W.heap.size W w1):d.R e w1 base (fun k=>ok k/\k<W.heap.size) u xs:=
 R_mono (R_below (R_bound hu) hb) (fun _ h=>⟨h.1,h.2.2.1⟩)
theorem R_told(h:d.R e w1 base (fun k=>ok k/\k<N) u xs)(hbase: ∀k,v.ownBlock=some k->N<=k):d.R e w1 base (fun k=>(ok k/\some k≠v.ownBlock)/\k<N) u xs:=
 R_mono h (fun k hk=>⟨⟨hk.1,fun e=>Nat.lt_irrefl _ (Nat.lt_of_lt_of_le hk.2 (hbase k e.symm))⟩,hk.2⟩)
end
end Kd
theorem max2_int(k k':IntKind)(x y:Int):Builtin.max2 (.int k x) (.int k' y)=pure (.int k (if x<y then y else x)):=by simp only[Builtin.max2,gt_iff_lt]
theorem min2_int(k k':IntKind)(x y:Int):Builtin.min2 (.int k x) (.int k' y)=pure (.int k (if y<x then y else x)):=by simp only[Builtin.min2]
theorem max_two(ats:Array TypeId)(ty:TypeId)(a b:Value):Builtin.max_ ats ty #[a,b] =(Builtin.max2 a b >>= fun s=>pure s):=by simp only[Builtin.max_,List.foldlM_cons,List.foldlM_nil]
theorem min_two(ats:Array TypeId)(ty:TypeId)(a b:Value):Builtin.min_ ats ty #[a,b] =(Builtin.min2 a b >>= fun s=>pure s):=by simp only[Builtin.min_,List.foldlM_cons,List.foldlM_nil]
theorem max_three(ats:Array TypeId)(ty:TypeId)(a b c:Value):Builtin.max_ ats ty #[a,b,c] =(Builtin.max2 a b >>= fun s=>Builtin.max2 s c >>= fun s=>pure s):=by simp only[Builtin.max_,List.foldlM_cons,List.foldlM_nil]
theorem min_three(ats:Array TypeId)(ty:TypeId)(a b c:Value):Builtin.min_ ats ty #[a,b,c] =(Builtin.min2 a b >>= fun s=>Builtin.min2 s c >>= fun s=>pure s):=by simp only[Builtin.min_,List.foldlM_cons,List.foldlM_nil]
theorem max_four(ats:Array TypeId)(ty:TypeId)(a b c d:Value):Builtin.max_ ats ty #[a,b,c,d] =(Builtin.max2 a b >>= fun s=>Builtin.max2 s c >>= fun s=>Builtin.max2 s d >>= fun s=>pure s):=by simp only[Builtin.max_,List.foldlM_cons,List.foldlM_nil]
theorem min_four(ats:Array TypeId)(ty:TypeId)(a b c d:Value):Builtin.min_ ats ty #[a,b,c,d] =(Builtin.min2 a b >>= fun s=>Builtin.min2 s c >>= fun s=>Builtin.min2 s d >>= fun s=>pure s):=by simp only[Builtin.min_,List.foldlM_cons,List.foldlM_nil]
end Go.Proofs.YtnfemjnajfdepaaW.PrintMore
namespace Go.Proofs.YtnfemjnajfdepaaW.PrintWords
open RowKit
section
variable {P:Program} {ops:Array Oper} {rest:List Oper} {o:Oper} {a:Act} {Q:Exit->Act->World->Prop} {W:World}
theorem gate_builtin{b:Builtin}{xs:Array Operand}{ts:Array TypeId}(_ho:o.op= .call { callee:= .builtin b,args:=xs,argTypes:=ts })(h:wpList P ops Q (o::rest) a W):wpList P ops Q (o::rest) a W:=h
end
def mx(a b:Int):Int:=if a<b then b else a
def mn(a b:Int):Int:=if b<a then b else a
def shl(k:IntKind)(x y:Int):Int:=k.wrap (x*2^min y.toNat k.bits)
def shr(k:IntKind)(x y:Int):Int:=x / 2^min y.toNat k.bits
theorem shl_small{k:IntKind}{x y j:Int}(h:shl k x y=j)(hy:y<=k.bits):k.wrap (x*2^y.toNat)=j:=by rw[<-h];unfold shl;rw[Nat.min_eq_left (by omega)]
theorem shr_small{k:IntKind}{x y j:Int}(h:shr k x y=j)(hy:y<=k.bits):x / 2^y.toNat=j:=by rw[<-h];unfold shr;rw[Nat.min_eq_left (by omega)]
namespace Kd
def V{α:Type}(d:Kd α)(_e:Nat)(W:World)(_base:Nat)(ok:Nat->Prop)(v:Value)(xs:List α):Prop:= ∃A c,v= .slice A xs.length c/\xs.length<=c/\F d W ok A xs.length xs
section
variable {α β:Type} {d:Kd α} {e base base' n m c g N' lo hi:Nat} {ok ok' S:Nat->Prop} {w W w1:World} {A:Option Addr} {ad:Addr} {u v v1:Value} {xs:List α}
theorem V_map(h:V d e W base ok v xs)(hF: ∀A,F d W ok A xs.length xs->F d w1 ok' A xs.length xs):V d e w1 base' ok' v xs:=by
 obtain⟨A,c,hv,hl,hf⟩:=h;exact⟨A,c,hv,hl,hF A hf⟩
theorem V_mk(hl:xs.length<=c)(hf:F d W ok A xs.length xs):V d e W base ok (.slice A xs.length c) xs:=⟨A,c,rfl,hl,hf⟩
theorem V_slice(h:V d e W base ok v xs): ∃A c,v= .slice A xs.length c:=by
 obtain⟨A,c,hv,_⟩:=h;exact⟨A,c,hv⟩
theorem V_at(h:V d e W base ok (.slice A n c) xs):n=xs.length/\n<=c/\F d W ok A xs.length xs:=by
 obtain⟨A',c',hv,hl,hf⟩:=h;injection hv with ha hn hc;subst ha;subst hc;exact⟨hn,by rw[hn];exact hl,hf⟩
theorem V_reads'(h:V d e W base ok (.slice A n c) xs):n=xs.length/\n<=c/\d.C W A xs.length xs:=⟨(V_at h).1,(V_at h).2.1,F_now (V_at h).2.2⟩
theorem V_nil(d:Kd α)(e:Nat)(W:World)(base:Nat)(ok:Nat->Prop):V d e W base ok (.slice none 0 0) []:=⟨none,0,rfl,Nat.le_refl _,F_nil d W ok⟩
theorem V_mono(h:V d e W base ok v xs)(hok: ∀k,ok k->ok' k):V d e W base ok' v xs:=V_map h (fun _ hf=>F_mono hf hok)
theorem V_lower(h:V d e W base ok v xs)(_:base'<=base):V d e W base' ok v xs:=h
theorem V_alloc(h:V d e W base ok v xs)(o:Obj):V d e (W.alloc o) base ok v xs:=V_map h (fun _ hf=>F_alloc hf o)
theorem V_drew(h:V d e W base ok v xs):V d e W.drew base ok v xs:=V_map h (fun _ hf=>F_drew hf)
theorem V_drewN(h:V d e W base ok v xs)(m:Nat):V d e (W.drewN m) base ok v xs:=V_map h (fun _ hf=>F_drewN hf m)
theorem V_far(h:V d e W base ok v xs){p:Addr}(hok: ∀k,ok k->k≠p.block)(u:Value):V d e (W.setCell p u) base ok v xs:=V_map h (fun _ hf=>F_far hf hok u)
theorem V_after(h:V d e W base (fun k=>ok k/\some k≠u.ownBlock) v xs)(hg:W.grownBy w1 u.ownBlock)(hat:v1.ownBlock=u.ownBlock∨ ∃b,v1.ownBlock=some b/\W.heap.size<=b):V d e w1 base (fun k=>ok k/\some k≠v1.ownBlock) v xs:=V_map h (fun _ hf=>F_after hf hg hat)
theorem V_afterv(h:V d e W base (fun k=>ok k/\some k≠v.ownBlock) u xs)(hg:W.grownBy w1 v.ownBlock)(hat:v1.ownBlock=v.ownBlock∨ ∃b,v1.ownBlock=some b/\W.heap.size<=b):V d e w1 base (fun k=>ok k/\some k≠v1.ownBlock) u xs:=V_after h hg hat
theorem V_elder'(h:V d e W base ok v xs)(hbase: ∀k,u.ownBlock=some k->W.heap.size<=k)(hb:Below W.heap.size W w1):V d e w1 base (fun k=>ok k/\some k≠u.ownBlock) v xs:=V_map h (fun _ hf=>F_elder' hf hbase hb)
theorem FK_slice_mk{l:List α}(hl:l.length<=c)(hf:F d W ok A l.length l):FK (Kd.slice e d) W ok l [.slice A l.length c]:=fun W' hW=>⟨A,c,rfl,hl,hf W' hW⟩
end
end Kd
end Go.Proofs.YtnfemjnajfdepaaW.PrintWords
namespace Go.Proofs.YtnfemjnajfdepaaW.PrintWords
theorem Reps.one{α:Type}{R:α->List Value->Prop}{ps:List α}{cs:List Value}{p:α}{v:Value}(hp:R p [v])(h:Reps R 1 ps cs):Reps R 1 (p::ps) (v::cs):=by
 refine⟨by simp[h.1],fun j q hq=>?_⟩
 cases j with
 |zero=>
  simp only[List.getElem?_cons_zero,Option.some.injEq]at hq;subst hq;simpa using hp
 |succ j=>
  simp only[List.getElem?_cons_succ]at hq;have h1:=h.2 j q hq;simpa[Nat.mul_one]using h1
theorem Reps.front{α:Type}{R:α->List Value->Prop}{size:Nat}{ps:List α}{cs c all:List Value}{p:α}(hp:R p c)(hc:c.length=size)(h:Reps R size ps cs)(ha:c++cs=all):Reps R size (p::ps) all:=by
 subst ha;refine⟨by rw[List.length_append,hc,h.1,List.length_cons,Nat.succ_mul,Nat.add_comm],fun j q hq=>?_⟩
 cases j with
 |zero=>
  simp only[List.getElem?_cons_zero,Option.some.injEq]at hq;subst hq;rw[Nat.zero_mul,List.drop_zero,List.take_append_of_le_length (by omega),List.take_of_length_le (by omega)];exact hp
 |succ j=>
  simp only[List.getElem?_cons_succ]at hq;have h1:=h.2 j q hq;rw[Nat.succ_mul,List.drop_append,List.drop_of_length_le (by rw[hc];exact Nat.le_add_left _ _),List.nil_append,hc,Nat.add_sub_cancel];exact h1
theorem Reps.c2{α:Type}{R:α->List Value->Prop}{ps:List α}{cs:List Value}{p:α}{va vb:Value}(hp:R p [va,vb])(h:Reps R 2 ps cs):Reps R 2 (p::ps) (va::vb::cs):=Reps.front hp rfl h rfl
theorem Reps.c3{α:Type}{R:α->List Value->Prop}{ps:List α}{cs:List Value}{p:α}{va vb vc:Value}(hp:R p [va,vb,vc])(h:Reps R 3 ps cs):Reps R 3 (p::ps) (va::vb::vc::cs):=Reps.front hp rfl h rfl
theorem Reps.c4{α:Type}{R:α->List Value->Prop}{ps:List α}{cs:List Value}{p:α}{va vb vc vd:Value}(hp:R p [va,vb,vc,vd])(h:Reps R 4 ps cs):Reps R 4 (p::ps) (va::vb::vc::vd::cs):=Reps.front hp rfl h rfl
theorem Reps.c5{α:Type}{R:α->List Value->Prop}{ps:List α}{cs:List Value}{p:α}{va vb vc vd ve:Value}(hp:R p [va,vb,vc,vd,ve])(h:Reps R 5 ps cs):Reps R 5 (p::ps) (va::vb::vc::vd::ve::cs):=Reps.front hp rfl h rfl
theorem Reps.c6{α:Type}{R:α->List Value->Prop}{ps:List α}{cs:List Value}{p:α}{va vb vc vd ve vf:Value}(hp:R p [va,vb,vc,vd,ve,vf])(h:Reps R 6 ps cs):Reps R 6 (p::ps) (va::vb::vc::vd::ve::vf::cs):=Reps.front hp rfl h rfl
theorem Reps.c7{α:Type}{R:α->List Value->Prop}{ps:List α}{cs:List Value}{p:α}{va vb vc vd ve vf vg:Value}(hp:R p [va,vb,vc,vd,ve,vf,vg])(h:Reps R 7 ps cs):Reps R 7 (p::ps) (va::vb::vc::vd::ve::vf::vg::cs):=Reps.front hp rfl h rfl
theorem Reps.c8{α:Type}{R:α->List Value->Prop}{ps:List α}{cs:List Value}{p:α}{va vb vc vd ve vf vg vh:Value}(hp:R p [va,vb,vc,vd,ve,vf,vg,vh])(h:Reps R 8 ps cs):Reps R 8 (p::ps) (va::vb::vc::vd::ve::vf::vg::vh::cs):=Reps.front hp rfl h rfl
theorem Reps.c9{α:Type}{R:α->List Value->Prop}{ps:List α}{cs:List Value}{p:α}{va vb vc vd ve vf vg vh vi:Value}(hp:R p [va,vb,vc,vd,ve,vf,vg,vh,vi])(h:Reps R 9 ps cs):Reps R 9 (p::ps) (va::vb::vc::vd::ve::vf::vg::vh::vi::cs):=Reps.front hp rfl h rfl
theorem Reps.c10{α:Type}{R:α->List Value->Prop}{ps:List α}{cs:List Value}{p:α}{va vb vc vd ve vf vg vh vi vj:Value}(hp:R p [va,vb,vc,vd,ve,vf,vg,vh,vi,vj])(h:Reps R 10 ps cs):Reps R 10 (p::ps) (va::vb::vc::vd::ve::vf::vg::vh::vi::vj::cs):=Reps.front hp rfl h rfl
end Go.Proofs.YtnfemjnajfdepaaW.PrintWords
namespace Go
theorem zL.{u} : (∀ {α : Type u} (l : List α) (i : Nat) (a : α), l.toArray.setIfInBounds i a = (l.set i a).toArray) /\ (∀ {α : Type u} (x : α) (xs : List α) (a : α), (x :: xs).set 0 a = a :: xs) /\ (∀ {α : Type u} (x : α) (xs : List α) (i : Nat) (a : α), (x :: xs).set (i + 1) a = x :: xs.set i a) := ⟨fun l i a => by simp, fun _ _ _ => rfl, fun _ _ _ _ => rfl⟩
theorem zaa{p:Prop}(h:p:=by omega):p:=h
theorem zab{p:Prop}(h:p:=by decide):p:=h
theorem zac{p:Prop}(h:p:=by simp):p:=h
theorem zad{p:Prop}(h:p:=by kernel_rfl):p:=h
theorem zae{p:Prop}(h:p:=by rfl):p:=h
theorem zaf{p:Prop}(h:p:=by simp;omega):p:=h
theorem zam{p:Prop}(h:p:=by first|(rw[add_block];exact ag)|(show(Addr.add _ _).block≠_;rw[add_block];exact ag)|exact ag):p:=h
theorem zan{p:Prop}(h:p:=by first|(rw[add_block];exact af)|(show(Addr.add _ _).block≠_;rw[add_block];exact af)|exact af):p:=h
theorem zao{p:Prop}(h:p:=by have:=World.block_lt_of_cell? _ _ O;first|rwa [add_block]at this|exact this):p:=h
theorem zap{p:Prop}(h:p:=by have:=World.block_lt_of_cell? _ _ L;first|rwa [add_block]at this|exact this):p:=h
theorem zaq{p:Prop}(h:p:=by go_simp;rfl):p:=h
theorem zar{p:Prop}(h:p:=by first|(rw[add_block];exact al)|(show(Addr.add _ _).block≠_;rw[add_block];exact al)|exact al):p:=h
theorem zas{p:Prop}(h:p:=by first|(rw[add_block];exact ak)|(show(Addr.add _ _).block≠_;rw[add_block];exact ak)|exact ak):p:=h
theorem zat{p:Prop}(h:p:=by simp only[List.length_append];omega):p:=h
theorem zau{p:Prop}(h:p:=by simp only[putAll,Act.put,zL]):p:=h
theorem zav{p:Prop}(h:p:=by injection ca):p:=h
theorem zaw{p:Prop}(h:p:=by injection b8):p:=h
theorem zax{p:Prop}(h:p:=by go_simp):p:=h
theorem zay{p:Prop}(h:p:=by simpa using hl):p:=h
theorem zaz{p:Prop}(h:p:=by simpa using h):p:=h
theorem za0{p:Prop}(h:p:=by first|exact Nat.ne_of_lt (Nat.lt_of_lt_of_le (by have:=World.block_lt_of_cell? _ _ au;first|rwa [add_block]at this|exact this) D.out)|(rw[add_block];exact Nat.ne_of_lt (Nat.lt_of_lt_of_le (by have:=World.block_lt_of_cell? _ _ au;first|rwa [add_block]at this|exact this) D.out))|(show(Addr.add _ _).block≠_;rw[add_block];exact Nat.ne_of_lt (Nat.lt_of_lt_of_le (by have:=World.block_lt_of_cell? _ _ au;first|rwa [add_block]at this|exact this) D.out))|(dsimp only;exact Nat.ne_of_lt (Nat.lt_of_lt_of_le (by have:=World.block_lt_of_cell? _ _ au;first|rwa [add_block]at this|exact this) D.out))):p:=h
theorem za1{p:Prop}(h:p:=by first|exact Nat.ne_of_lt (Nat.lt_of_lt_of_le (by have:=World.block_lt_of_cell? _ _ ar;first|rwa [add_block]at this|exact this) D.out)|(rw[add_block];exact Nat.ne_of_lt (Nat.lt_of_lt_of_le (by have:=World.block_lt_of_cell? _ _ ar;first|rwa [add_block]at this|exact this) D.out))|(show(Addr.add _ _).block≠_;rw[add_block];exact Nat.ne_of_lt (Nat.lt_of_lt_of_le (by have:=World.block_lt_of_cell? _ _ ar;first|rwa [add_block]at this|exact this) D.out))|(dsimp only;exact Nat.ne_of_lt (Nat.lt_of_lt_of_le (by have:=World.block_lt_of_cell? _ _ ar;first|rwa [add_block]at this|exact this) D.out))):p:=h
theorem za2{p:Prop}(h:p:=by first|exact Nat.ne_of_lt (Nat.lt_of_lt_of_le (by have:=World.block_lt_of_cell? _ _ aq;first|rwa [add_block]at this|exact this) D.out)|(rw[add_block];exact Nat.ne_of_lt (Nat.lt_of_lt_of_le (by have:=World.block_lt_of_cell? _ _ aq;first|rwa [add_block]at this|exact this) D.out))|(show(Addr.add _ _).block≠_;rw[add_block];exact Nat.ne_of_lt (Nat.lt_of_lt_of_le (by have:=World.block_lt_of_cell? _ _ aq;first|rwa [add_block]at this|exact this) D.out))|(dsimp only;exact Nat.ne_of_lt (Nat.lt_of_lt_of_le (by have:=World.block_lt_of_cell? _ _ aq;first|rwa [add_block]at this|exact this) D.out))):p:=h
theorem za3{p:Prop}(h:p:=by first|exact Nat.ne_of_lt (Nat.lt_of_lt_of_le (by have:=World.block_lt_of_cell? _ _ ap;first|rwa [add_block]at this|exact this) D.out)|(rw[add_block];exact Nat.ne_of_lt (Nat.lt_of_lt_of_le (by have:=World.block_lt_of_cell? _ _ ap;first|rwa [add_block]at this|exact this) D.out))|(show(Addr.add _ _).block≠_;rw[add_block];exact Nat.ne_of_lt (Nat.lt_of_lt_of_le (by have:=World.block_lt_of_cell? _ _ ap;first|rwa [add_block]at this|exact this) D.out))|(dsimp only;exact Nat.ne_of_lt (Nat.lt_of_lt_of_le (by have:=World.block_lt_of_cell? _ _ ap;first|rwa [add_block]at this|exact this) D.out))):p:=h
theorem za4{p:Prop}(h:p:=by first|exact Nat.ne_of_lt (Nat.lt_of_lt_of_le (by have:=World.block_lt_of_cell? _ _ ao;first|rwa [add_block]at this|exact this) D.out)|(rw[add_block];exact Nat.ne_of_lt (Nat.lt_of_lt_of_le (by have:=World.block_lt_of_cell? _ _ ao;first|rwa [add_block]at this|exact this) D.out))|(show(Addr.add _ _).block≠_;rw[add_block];exact Nat.ne_of_lt (Nat.lt_of_lt_of_le (by have:=World.block_lt_of_cell? _ _ ao;first|rwa [add_block]at this|exact this) D.out))|(dsimp only;exact Nat.ne_of_lt (Nat.lt_of_lt_of_le (by have:=World.block_lt_of_cell? _ _ ao;first|rwa [add_block]at this|exact this) D.out))):p:=h
theorem za5{p:Prop}(h:p:=by first|exact Nat.ne_of_lt (Nat.lt_of_lt_of_le (by have:=World.block_lt_of_cell? _ _ an;first|rwa [add_block]at this|exact this) D.out)|(rw[add_block];exact Nat.ne_of_lt (Nat.lt_of_lt_of_le (by have:=World.block_lt_of_cell? _ _ an;first|rwa [add_block]at this|exact this) D.out))|(show(Addr.add _ _).block≠_;rw[add_block];exact Nat.ne_of_lt (Nat.lt_of_lt_of_le (by have:=World.block_lt_of_cell? _ _ an;first|rwa [add_block]at this|exact this) D.out))|(dsimp only;exact Nat.ne_of_lt (Nat.lt_of_lt_of_le (by have:=World.block_lt_of_cell? _ _ an;first|rwa [add_block]at this|exact this) D.out))):p:=h
theorem za6{p:Prop}(h:p:=by refine bkR ?_;refine blk_put (cs:= #[.int .i64 ((rd_T61 (rd_L5 I D) L).f0),.int .u8 ((rd_T61 (rd_L5 I D) L).f1)]) ?_ 0 _ rfl;refine bkR ?_;exact ab.out):p:=h
theorem za7{p:Prop}(h:p:=by have:=World.block_lt_of_cell? _ _ az;first|rwa [add_block]at this|exact this):p:=h
theorem za8{p:Prop}(h:p:=by have:=World.block_lt_of_cell? _ _ ay;first|rwa [add_block]at this|exact this):p:=h
theorem za9{p:Prop}(h:p:=by have:=World.block_lt_of_cell? _ _ a1;first|rwa [add_block]at this|exact this):p:=h
theorem zba{p:Prop}(h:p:=by have:=World.block_lt_of_cell? _ _ a0;first|rwa [add_block]at this|exact this):p:=h
theorem zbb{p:Prop}(h:p:=by intro e;injection e with e;first|exact hne e|exact hne e.symm):p:=h
theorem zbc{p:Prop}(h:p:=by simp only[List.map_toArray,List.map_cons,List.map_nil];rfl):p:=h
theorem zbd{p:Prop}(h:p:=by simp only[Nat.min_def];split<;>omega):p:=h
theorem zbe{p:Prop}(h:p:=by intro e;exact NQP.out e):p:=h
theorem zbf{p:Prop}(h:p:=by simp[Act.eval,Act.put]):p:=h
theorem zbg{p:Prop}(h:p:=by have:=HL.out;omega):p:=h
theorem zbh{p:Prop}(h:p:=by rw[hLe];simp):p:=h
theorem zbi{p:Prop}(h:p:=by injection dp):p:=h
theorem zbj{p:Prop}(h:p:=by refine bkR ?_;refine blk_put (cs:= #[.int .i64 0,.int .i64 0,.int .u8 0,.int .i64 0]) ?_ 3 _ rfl;refine bkR ?_;refine blk_put (cs:= #[.int .i64 0,.int .i64 0,.int .u8 0,.int .i64 0]) ?_ 2 _ rfl;refine bkR ?_;refine blk_put (cs:= #[.int .i64 0,.int .i64 0,.int .u8 0,.int .i64 0]) ?_ 1 _ rfl;refine bkR ?_;refine blk_put (cs:= #[.int .i64 0,.int .i64 0,.int .u8 0,.int .i64 0]) ?_ 0 _ rfl;refine bkR ?_;exact U.out):p:=h
theorem zbk{p:Prop}(h:p:=by refine bkR ?_;refine blk_put (cs:= #[.slice aj Y.length ak,.slice none 0 0,.slice none 0 0]) ?_ 2 _ rfl;refine bkR ?_;refine blk_put (cs:= #[.slice aj Y.length ak,.slice none 0 0,.slice none 0 0]) ?_ 1 _ rfl;refine bkR ?_;refine blk_put (cs:= #[.slice none 0 0,.slice none 0 0,.slice none 0 0]) ?_ 0 _ rfl;refine bkR ?_;exact D.out):p:=h
theorem zbl{p:Prop}(h:p:=by refine bkR ?_;refine blk_far ?_ am.out _;refine bkR ?_;refine blk_far ?_ am.out _;refine bkR ?_;refine blk_far ?_ am.out _;refine bkR ?_;exact D.out):p:=h
theorem zbm{p:Prop}(h:p:=by refine bkR ?_;refine blk_far ?_ ac.out _;refine bkR ?_;refine blk_far ?_ ac.out _;refine bkR ?_;refine blk_far ?_ ac.out _;refine bkR ?_;exact O.out):p:=h
theorem zbn{p:Prop}(h:p:=by refine bkR ?_;refine blk_far ?_ ab.out _;refine bkR ?_;refine blk_far ?_ ab.out _;refine bkR ?_;refine blk_far ?_ ab.out _;refine bkR ?_;exact L.out):p:=h
theorem zbo{p:Prop}(h:p:=by refine bkR ?_;refine blk_far ?_ aa.out _;refine bkR ?_;refine blk_far ?_ aa.out _;refine bkR ?_;refine blk_far ?_ aa.out _;refine bkR ?_;exact G.out):p:=h
theorem zbp{p:Prop}(h:p:=by simp[Value.ownBlock]):p:=h
theorem zbq{p:Prop}(h:p:=by refine bkR ?_;refine blk_put (cs:= #[.int .i64 ae,.int .i64 al,.int .u8 am,.int .i64 0]) ?_ 3 _ rfl;refine bkR ?_;refine blk_put (cs:= #[.int .i64 ae,.int .i64 al,.int .u8 0,.int .i64 0]) ?_ 2 _ rfl;refine bkR ?_;refine blk_put (cs:= #[.int .i64 ae,.int .i64 0,.int .u8 0,.int .i64 0]) ?_ 1 _ rfl;refine bkR ?_;refine blk_put (cs:= #[.int .i64 0,.int .i64 0,.int .u8 0,.int .i64 0]) ?_ 0 _ rfl;refine bkR ?_;exact Y.out):p:=h
theorem zbr{p:Prop}(h:p:=by refine bkR ?_;refine blk_put (cs:= #[.slice X L.length U,.slice ab Y.length aa,.slice a7 O.length a8]) ?_ 2 _ rfl;refine bkR ?_;refine blk_put (cs:= #[.slice X L.length U,.slice bo ah.length bp,.slice a7 O.length a8]) ?_ 1 _ rfl;refine bkR ?_;refine blk_put (cs:= #[.slice bl ag.length bm,.slice bo ah.length bp,.slice a7 O.length a8]) ?_ 0 _ rfl;refine bkR ?_;exact G.out):p:=h
theorem zbs{p:Prop}(h:p:=by refine bkR ?_;refine blk_far ?_ NBT_311.out _;refine bkR ?_;refine blk_far ?_ NBT_311.out _;refine bkR ?_;refine blk_far ?_ NBT_311.out _;refine bkR ?_;refine blk_far ?_ NBT_311.out _;refine bkR ?_;exact BKT.out):p:=h
theorem zbt{p:Prop}(h:p:=by refine bkR ?_;refine blk_far ?_ J.out _;refine bkR ?_;refine blk_far ?_ J.out _;refine bkR ?_;refine blk_far ?_ J.out _;refine bkR ?_;refine blk_far ?_ J.out _;refine bkR ?_;exact D.out):p:=h
theorem zbu{p:Prop}(h:p:=by refine bkR ?_;refine blk_far ?_ I.out _;refine bkR ?_;refine blk_far ?_ I.out _;refine bkR ?_;refine blk_far ?_ I.out _;refine bkR ?_;refine blk_far ?_ I.out _;refine bkR ?_;exact G.out):p:=h
theorem zbv{p:Prop}(h:p:=by refine bkR ?_;refine blk_far ?_ ax.out _;refine bkR ?_;refine blk_far ?_ ax.out _;refine bkR ?_;refine blk_far ?_ ax.out _;refine bkR ?_;exact ai.out):p:=h
theorem zbw{p:Prop}(h:p:=by refine bkR ?_;refine blk_far ?_ ak.out _;refine bkR ?_;refine blk_far ?_ ak.out _;refine bkR ?_;refine blk_far ?_ ak.out _;refine bkR ?_;exact I.out):p:=h
theorem zbx{p:Prop}(h:p:=by refine bkR ?_;refine blk_far ?_ aj.out _;refine bkR ?_;refine blk_far ?_ aj.out _;refine bkR ?_;refine blk_far ?_ aj.out _;refine bkR ?_;exact D.out):p:=h
theorem zby{p:Prop}(h:p:=by have h_:(D:Int)<((G.length:Int):Int):=of_decide_eq_true asE;first|exact h_|(have e_:=(Kd.R_reads' HO_5.out).1;omega)|simpa using h_):p:=h
theorem zbz{p:Prop}(h:p:=by first|(rw[add_block];exact bz)|(show(Addr.add _ _).block≠_;rw[add_block];exact bz)|exact bz):p:=h
theorem zb0{p:Prop}(h:p:=by first|(rw[add_block];exact bx)|(show(Addr.add _ _).block≠_;rw[add_block];exact bx)|exact bx):p:=h
theorem zb1{p:Prop}(h:p:=by first|(rw[add_block];exact bw)|(show(Addr.add _ _).block≠_;rw[add_block];exact bw)|exact bw):p:=h
theorem zb2{p:Prop}(h:p:=by first|(rw[add_block];exact bv)|(show(Addr.add _ _).block≠_;rw[add_block];exact bv)|exact bv):p:=h
theorem zb3{p:Prop}(h:p:=by first|(rw[add_block];exact bu)|(show(Addr.add _ _).block≠_;rw[add_block];exact bu)|exact bu):p:=h
theorem zb4{p:Prop}(h:p:=by first|(rw[add_block];exact b2)|(show(Addr.add _ _).block≠_;rw[add_block];exact b2)|exact b2):p:=h
theorem zb5{p:Prop}(h:p:=by first|(rw[add_block];exact b1)|(show(Addr.add _ _).block≠_;rw[add_block];exact b1)|exact b1):p:=h
theorem zb6{p:Prop}(h:p:=by first|(rw[add_block];exact b0)|(show(Addr.add _ _).block≠_;rw[add_block];exact b0)|exact b0):p:=h
theorem zb7{p:Prop}(h:p:=by refine bkR ?_;refine blk_put (cs:= #[.int .i64 ai]) ?_ 0 _ rfl;refine bkR ?_;exact I.out):p:=h
theorem zb8{p:Prop}(h:p:=by rw[hFl,hF];show Z2.take ((n+1)*2)=_;rw[show(n+1)*2=n*2+2 from by omega];exact aa):p:=h
theorem zb9{p:Prop}(h:p:=by refine bkR ?_;refine blk_far ?_ av.out _;refine bkR ?_;exact U.out):p:=h
theorem zca{p:Prop}(h:p:=by refine bkR ?_;refine blk_far ?_ au.out _;refine bkR ?_;exact J.out):p:=h
theorem zcb{p:Prop}(h:p:=by refine bkR ?_;refine blk_far ?_ ar.out _;refine bkR ?_;exact O.out):p:=h
theorem zcc{p:Prop}(h:p:=by refine bkR ?_;refine blk_far ?_ aq.out _;refine bkR ?_;exact G.out):p:=h
theorem zcd{p:Prop}(h:p:=by rw[decide_eq_false (by omega: ¬ins[i]<64),Bool.and_false];rfl):p:=h
theorem zce{p:Prop}(h:p:=by intro e;injection e with e;exact NSG.out e.symm):p:=h
end Go
namespace Go.Proofs.Ytnfemjnajfdepaa.Q
open RowKit YtnfemjnajfdepaaW.PrintWords YtnfemjnajfdepaaW.PrintLast YtnfemjnajfdepaaW.PrintMore
theorem rsE{p:Prop}(h:p:=by first|rfl|(simp;done)|(simp[*];done)):p:=h
theorem leE{p:Prop}(h:p:=by first|omega|exact Nat.le_refl _):p:=h
theorem bkA{w W:World}{g:Nat}{o:Obj}(h:w.heap[g]? =some o)(k:w.heap[g]? =some o->W.heap[g]? =some o:=by intro h_;(with_reducible repeat(first|refine blk_drewN ?_ _|refine blk_drew ?_|refine blk_alloc ?_ _));exact h_):W.heap[g]? =some o:=k h
theorem bkB{w w1 W:World}{g:Nat}{o:Obj}(B:Aside0 (w.heap[g]? =some o))(hb:Below w1.heap.size w1 W)(k:w.heap[g]? =some o->w1.heap[g]? =some o:=by intro h_;(with_reducible repeat(first|refine blk_drewN ?_ _|refine blk_drew ?_|refine blk_alloc ?_ _));exact h_):Aside0 (W.heap[g]? =some o):=⟨blk_below (k B.out) hb⟩
theorem bkG{w w1 W:World}{g:Nat}{o:Obj}{row:Option Nat}(B:Aside0 (w.heap[g]? =some o))(hg:w1.grownBy W row)(hne:some g≠row)(k:w.heap[g]? =some o->w1.heap[g]? =some o:=by intro h_;(with_reducible repeat(first|refine blk_drewN ?_ _|refine blk_drew ?_|refine blk_alloc ?_ _));exact h_):Aside0 (W.heap[g]? =some o):=⟨blk_grown (k B.out) hg hne⟩
theorem bkL{w W:World}{g:Nat}{o:Obj}(B:Aside0 (w.heap[g]? =some o))(k:w.heap[g]? =some o->W.heap[g]? =some o:=by intro h_;(with_reducible repeat(first|refine blk_drewN ?_ _|refine blk_drew ?_|refine blk_alloc ?_ _));exact h_):g<W.heap.size:=blk_lt (k B.out)
theorem bkR{w W:World}{g:Nat}{o:Obj}(h:w.heap[g]? =some o)(k:w.heap[g]? =some o->W.heap[g]? =some o:=by intro h_;(with_reducible repeat(first|refine blk_drewN ?_ _|refine blk_drew ?_|refine blk_alloc ?_ _));exact h_):W.heap[g]? =some o:=k h
theorem neL{w W:World}{g g':Nat}{o:Obj}(B:Aside0 (w.heap[g]? =some o))(hg:g'=W.heap.size)(k:w.heap[g]? =some o->W.heap[g]? =some o:=by intro h_;(with_reducible repeat(first|refine blk_drewN ?_ _|refine blk_drew ?_|refine blk_alloc ?_ _));exact h_):Aside0 (g≠g'):=⟨by rw[hg];exact Nat.ne_of_lt (blk_lt (k B.out))⟩
theorem neG{w W:World}{g g':Nat}{o:Obj}(B:Aside0 (w.heap[g]? =some o))(hg:g'=W.heap.size)(k:w.heap[g]? =some o->W.heap[g]? =some o:=by intro h_;(with_reducible repeat(first|refine blk_drewN ?_ _|refine blk_drew ?_|refine blk_alloc ?_ _));exact h_):Aside0 (g'≠g):=⟨by rw[hg];exact Nat.ne_of_gt (blk_lt (k B.out))⟩
theorem asE{p:Prop}(h:p:=by first|(with_reducible assumption)|assumption):p:=h
theorem rfE{p:Prop}(h:p:=by first|rfl|(simp[errW_none,errW_some]<;>rfl)|(simp[*,errW_none,errW_some]<;>rfl)):p:=h
theorem nilE{p:Prop}(h:p:=by first|exact Kd.R_nil _ _ _ _ _|exact Kd.N_nil _ _ _ _ _|exact Kd.V_nil _ _ _ _ _|exact Kd.Q_nil _ _ _ _ _|exact Kd.S_nil _ _ _ _ _):p:=h
theorem nofT: ¬(false=true):=by decide
theorem bindO{α β:Type}{x:Option α}{f:α->Option β}{r:β}(h:x.bind f=some r): ∃a,Aside0 (x=some a)/\f a=some r:=by
 obtain⟨a,h1,h2⟩:=Option.bind_eq_some_iff.mp h;exact⟨a,⟨h1⟩,h2⟩
theorem hbA{b:Nat}{w W W':World}(h:Below b w W)(k:Below b w W->Below b w W':=by intro h_;repeat(first|(with_reducible first|exact h_|apply below_alloc|apply pw_below_drewN|apply below_drew1|refine below_set ?_ (Aside0.out (by assumption)))|exact h_)):Below b w W':=k h
theorem hbB{w W1 W2 W:World}(B:Aside0 (Below w.heap.size w W1))(hb:Below W2.heap.size W2 W)(k:Below w.heap.size w W1->Below w.heap.size w W2:=by intro h_;repeat(first|(with_reducible first|exact h_|apply below_alloc|apply pw_below_drewN|apply below_drew1|refine below_set ?_ (Aside0.out (by assumption)))|exact h_)):Aside0 (Below w.heap.size w W):=⟨below_step (k B.out) hb⟩
theorem hbS{w W1 W2:World}{g:Nat}(B:Aside0 (Below w.heap.size w W1))(hg:g=W2.heap.size)(k:Below w.heap.size w W1->Below w.heap.size w W2:=by intro h_;repeat(first|(with_reducible first|exact h_|apply below_alloc|apply pw_below_drewN|apply below_drew1|refine below_set ?_ (Aside0.out (by assumption)))|exact h_)):Aside0 (w.heap.size<=g):=⟨hg▸below_size (k B.out)⟩
section
variable {α:Type} {d:Kd α} {e base n:Nat} {w w1 w2 W:World} {ok:Nat->Prop} {v:Value} {xs:List α} {A:Option Addr}
theorem kdA(h:Kd.R d e w base ok v xs)(k:Kd.R d e w base ok v xs->Kd.R d e W base ok v xs:=by intro h_;(with_reducible repeat(first|apply Kd.R_alloc|apply Kd.R_drewN|apply Kd.R_drew));exact h_):Kd.R d e W base ok v xs:=k h
theorem kdB(B:Aside0 (Kd.R d e w base ok v xs))(hb:Below w1.heap.size w1 W)(k:Kd.R d e w base ok v xs->Kd.R d e w1 base ok v xs:=by intro h_;(with_reducible repeat(first|apply Kd.R_alloc|apply Kd.R_drewN|apply Kd.R_drew));exact h_):Aside0 (Kd.R d e W base ok v xs):=⟨Kd.R_below (k B.out) hb⟩
theorem kdR(h:Kd.R d e w base ok v xs)(k:Kd.R d e w base ok v xs->Kd.R d e W base ok v xs:=by intro h_;(with_reducible repeat(first|apply Kd.R_alloc|apply Kd.R_drewN|apply Kd.R_drew));exact h_):Kd.R d e W base ok v xs:=k h
theorem kcA(h:Kd.C d w A n xs)(k:Kd.C d w A n xs->Kd.C d W A n xs:=by intro h_;repeat(first|exact h_|(with_reducible refine Kd.C_alloc ?_ _)|(with_reducible refine Kd.C_drewN ?_ _)|(with_reducible refine Kd.C_drew ?_))):Kd.C d W A n xs:=k h
theorem kcB(H:Aside0 (Kd.C d w A n xs))(B:Aside0 (Below w.heap.size w w1))(k:Kd.C d w1 A n xs->Kd.C d W A n xs:=by intro h_;repeat(first|exact h_|(with_reducible refine Kd.C_alloc ?_ _)|(with_reducible refine Kd.C_drewN ?_ _)|(with_reducible refine Kd.C_drew ?_))):Kd.C d W A n xs:=k (Kd.C_below H.out B.out)
end
section
variable {w:World} {g:Nat} {t:TypeId} {a b c d e f x y:Value}
theorem cell1(h:Aside0 (w.heap[g]? =some (.cells #[a] t (0,0)))):w.cell? ⟨g,0,none⟩=some a/\w.frozen? ⟨g,0,none⟩=false:=⟨blk_cell h.out 0,blk_frozen h.out 0⟩
theorem cell2(h:Aside0 (w.heap[g]? =some (.cells #[a,b] t (0,0)))):w.cell? ⟨g,0,none⟩=some a/\w.cell? ⟨g,1,none⟩=some b/\w.frozen? ⟨g,0,none⟩=false/\w.frozen? ⟨g,1,none⟩=false:=⟨blk_cell h.out 0,blk_cell h.out 1,blk_frozen h.out 0,blk_frozen h.out 1⟩
theorem cell3(h:Aside0 (w.heap[g]? =some (.cells #[a,b,c] t (0,0)))):w.cell? ⟨g,0,none⟩=some a/\w.cell? ⟨g,1,none⟩=some b/\w.cell? ⟨g,2,none⟩=some c/\w.frozen? ⟨g,0,none⟩=false/\w.frozen? ⟨g,1,none⟩=false/\w.frozen? ⟨g,2,none⟩=false:=⟨blk_cell h.out 0,blk_cell h.out 1,blk_cell h.out 2,blk_frozen h.out 0,blk_frozen h.out 1,blk_frozen h.out 2⟩
theorem cell4(h:Aside0 (w.heap[g]? =some (.cells #[a,b,c,d] t (0,0)))):w.cell? ⟨g,0,none⟩=some a/\w.cell? ⟨g,1,none⟩=some b/\w.cell? ⟨g,2,none⟩=some c/\w.cell? ⟨g,3,none⟩=some d/\w.frozen? ⟨g,0,none⟩=false/\w.frozen? ⟨g,1,none⟩=false/\w.frozen? ⟨g,2,none⟩=false/\w.frozen? ⟨g,3,none⟩=false:=⟨blk_cell h.out 0,blk_cell h.out 1,blk_cell h.out 2,blk_cell h.out 3,blk_frozen h.out 0,blk_frozen h.out 1,blk_frozen h.out 2,blk_frozen h.out 3⟩
theorem cell5(h:Aside0 (w.heap[g]? =some (.cells #[a,b,c,d,e] t (0,0)))):w.cell? ⟨g,0,none⟩=some a/\w.cell? ⟨g,1,none⟩=some b/\w.cell? ⟨g,2,none⟩=some c/\w.cell? ⟨g,3,none⟩=some d/\w.cell? ⟨g,4,none⟩=some e/\w.frozen? ⟨g,0,none⟩=false/\w.frozen? ⟨g,1,none⟩=false/\w.frozen? ⟨g,2,none⟩=false/\w.frozen? ⟨g,3,none⟩=false/\w.frozen? ⟨g,4,none⟩=false:=⟨blk_cell h.out 0,blk_cell h.out 1,blk_cell h.out 2,blk_cell h.out 3,blk_cell h.out 4,blk_frozen h.out 0,blk_frozen h.out 1,blk_frozen h.out 2,blk_frozen h.out 3,blk_frozen h.out 4⟩
end
section
variable {P:Program} {ops:Array Oper} {rest:List Oper} {o:Oper} {a:Act} {Q:Exit->Act->World->Prop} {W:World}
theorem gC(f:FuncId){xs:Array Operand}{ts:Array TypeId}(_ho:o.op= .call { callee:= .value (.func f),args:=xs,argTypes:=ts })(h:wpList P ops Q (o::rest) a W):wpList P ops Q (o::rest) a W:=h
theorem gD(N:Tmp)(_hN:o.dst=some N)(h:wpList P ops Q (o::rest) a W):wpList P ops Q (o::rest) a W:=h
theorem cG(N:Option Tmp){f:FuncId}{fn:Func}{xs:Array Operand}{ts:Array TypeId}(hf:P.funcs[f]? =some fn)(args:Array Value)
 (h:Calls P f args W fun e w'=> ∃v,e= .returned v/\wpList P ops Q rest (a.put N v) w') (hd:o.dst=N:=by exact rfl) (hg:o.guard=none:=by exact rfl) (hname:(fn.name== "runtime.NumGoroutine")=false:=by kernel_rfl) (hb:fn.body.isSome=true:=by exact rfl)
 (hop:o.op= .call { callee:= .value (.func f),args:=xs,argTypes:=ts } :=by exact rfl) (hargs:xs.map a.eval=args:=by(try simp only[List.map_toArray,List.map_cons,List.map_nil]);first|done|rfl|(simp only[List.length_drop,List.length_take];rfl)):wpList P ops Q (o::rest) a W:=
 goesL_ N hd hg hf hname hb args hop hargs h
theorem bE(N:Tmp)(cs:Array Value)(t:TypeId)
 (h: ∀g,g=W.heap.size-> ∀w1,w1.heap[g]? =some (.cells cs t (0,0))->Below W.heap.size W w1->wpList P ops Q rest (a.put o.dst (.pointer (some ⟨g,0,none⟩))) w1) (_hd:o.dst=some N:=by exact rfl) (hgd:o.guard=none:=by exact rfl)
 (hrun:(execOp a.eval o).run P W= .ok (.value (.pointer (some ⟨W.heap.size,0,none⟩))) (W.alloc (.cells cs t (0,0))):=by first|(go_simp;done)|(go_simp;rfl)):wpList P ops Q (o::rest) a W:=
 box_event hgd (N:=N) _hd hrun h
end
def mB(n m:Nat):Array Bool:=((List.range n).map fun i=>m.testBit i).toArray
section
variable {P:Program} {ops:Array Oper} {Q:Exit->Act->World->Prop} {md:Region.Mode} {S:World->Prop} {ds:List Nat} {T:Bool×List (List Nat×List Nat)} {B:List Nat} {oi:Oper} {v:Value} {fuel:Nat} {l:Array Bool} {a a':Act} {w:World}
theorem pu(i:Nat)(N:Option Tmp)(l':Array Bool)(hT:Aside0 (rtab md ops=T))(h:wpAnyLast P md ops Q S ds fuel l' a' w)(hi:ops[i]? =some oi:=by exact rfl)(hN:oi.dst=N:=by exact rfl)(hc:anyT T l.toList l'.toList i=true:=by kernel_rfl)
 (hQ: ∀c a w,Q (.panic c) (a.put oi.dst v) w->Q (.panic c) a w:=by exact(fun _ _ _ h=>h)) (hy:Yields P ops oi v a:=by(refine Or.inl ⟨rfl,?_⟩;intro w';go_simp;with_reducible rfl)) (ha:a.put N v=a':=by(simp only[Act.put,zL,i64_w,i32_w];rfl)):wpAnyLast P md ops Q S ds (fuel+1) l a w:=
 pure_ l' hi hN (any_of hT.out hc) hQ hy ha h
theorem tk0(i:Nat)(N:Option Tmp)(l':Array Bool)(hT:Aside0 (rtab md ops=T))(hW:Aside0 (waitsOk T.2 B=true))(hS:S w)(h:wpAnyLast P md ops Q S ds fuel l' a' w)(hi:ops[i]? =some oi:=by exact rfl)(hN:oi.dst=N:=by exact rfl)(hc:takeW T B ds l.toList l'.toList i=true:=by kernel_rfl)
 (hQ: ∀c a w,Q (.panic c) (a.put oi.dst v) w->Q (.panic c) a w:=by exact(fun _ _ _ h=>h)) (hy:YieldsIf P ops S oi v a:=by(refine Or.inl ⟨rfl,?_⟩;rintro w' _;go_simp;with_reducible rfl)) (ha:a.put N v=a':=by(simp only[Act.put,zL,i64_w,i32_w];rfl)):wpAnyLast P md ops Q S ds (fuel+1) l a w:=
 take_ l' hi hN (take_ofW hT.out hW.out hc) hQ hy hS ha h
theorem tk1(i:Nat)(N:Option Tmp)(l':Array Bool)(hT:Aside0 (rtab md ops=T))(hW:Aside0 (waitsOk T.2 B=true))(hS:S w)(h:wpAnyLast P md ops Q S ds fuel l' a' w)(hi:ops[i]? =some oi:=by exact rfl)(hN:oi.dst=N:=by exact rfl)(hc:takeW T B ds l.toList l'.toList i=true:=by kernel_rfl)
 (hQ: ∀c a w,Q (.panic c) (a.put oi.dst v) w->Q (.panic c) a w:=by exact(fun _ _ _ h=>h)) (hy:YieldsIf P ops S oi v a:=by(refine Or.inl ⟨rfl,?_⟩;rintro w' s0;go_simp;with_reducible rfl)) (ha:a.put N v=a':=by(simp only[Act.put,zL,i64_w,i32_w];rfl)):wpAnyLast P md ops Q S ds (fuel+1) l a w:=
 take_ l' hi hN (take_ofW hT.out hW.out hc) hQ hy hS ha h
theorem tk2(i:Nat)(N:Option Tmp)(l':Array Bool)(hT:Aside0 (rtab md ops=T))(hW:Aside0 (waitsOk T.2 B=true))(hS:S w)(h:wpAnyLast P md ops Q S ds fuel l' a' w)(hi:ops[i]? =some oi:=by exact rfl)(hN:oi.dst=N:=by exact rfl)(hc:takeW T B ds l.toList l'.toList i=true:=by kernel_rfl)
 (hQ: ∀c a w,Q (.panic c) (a.put oi.dst v) w->Q (.panic c) a w:=by exact(fun _ _ _ h=>h)) (hy:YieldsIf P ops S oi v a:=by(refine Or.inl ⟨rfl,?_⟩;rintro w' ⟨s0,s1⟩;go_simp;with_reducible rfl)) (ha:a.put N v=a':=by(simp only[Act.put,zL,i64_w,i32_w];rfl)):wpAnyLast P md ops Q S ds (fuel+1) l a w:=
 take_ l' hi hN (take_ofW hT.out hW.out hc) hQ hy hS ha h
theorem tk3(i:Nat)(N:Option Tmp)(l':Array Bool)(hT:Aside0 (rtab md ops=T))(hW:Aside0 (waitsOk T.2 B=true))(hS:S w)(h:wpAnyLast P md ops Q S ds fuel l' a' w)(hi:ops[i]? =some oi:=by exact rfl)(hN:oi.dst=N:=by exact rfl)(hc:takeW T B ds l.toList l'.toList i=true:=by kernel_rfl)
 (hQ: ∀c a w,Q (.panic c) (a.put oi.dst v) w->Q (.panic c) a w:=by exact(fun _ _ _ h=>h)) (hy:YieldsIf P ops S oi v a:=by(refine Or.inl ⟨rfl,?_⟩;rintro w' ⟨s0,s1,s2⟩;go_simp;with_reducible rfl)) (ha:a.put N v=a':=by(simp only[Act.put,zL,i64_w,i32_w];rfl)):wpAnyLast P md ops Q S ds (fuel+1) l a w:=
 take_ l' hi hN (take_ofW hT.out hW.out hc) hQ hy hS ha h
theorem tk4(i:Nat)(N:Option Tmp)(l':Array Bool)(hT:Aside0 (rtab md ops=T))(hW:Aside0 (waitsOk T.2 B=true))(hS:S w)(h:wpAnyLast P md ops Q S ds fuel l' a' w)(hi:ops[i]? =some oi:=by exact rfl)(hN:oi.dst=N:=by exact rfl)(hc:takeW T B ds l.toList l'.toList i=true:=by kernel_rfl)
 (hQ: ∀c a w,Q (.panic c) (a.put oi.dst v) w->Q (.panic c) a w:=by exact(fun _ _ _ h=>h)) (hy:YieldsIf P ops S oi v a:=by(refine Or.inl ⟨rfl,?_⟩;rintro w' ⟨s0,s1,s2,s3⟩;go_simp;with_reducible rfl)) (ha:a.put N v=a':=by(simp only[Act.put,zL,i64_w,i32_w];rfl)):wpAnyLast P md ops Q S ds (fuel+1) l a w:=
 take_ l' hi hN (take_ofW hT.out hW.out hc) hQ hy hS ha h
theorem tk5(i:Nat)(N:Option Tmp)(l':Array Bool)(hT:Aside0 (rtab md ops=T))(hW:Aside0 (waitsOk T.2 B=true))(hS:S w)(h:wpAnyLast P md ops Q S ds fuel l' a' w)(hi:ops[i]? =some oi:=by exact rfl)(hN:oi.dst=N:=by exact rfl)(hc:takeW T B ds l.toList l'.toList i=true:=by kernel_rfl)
 (hQ: ∀c a w,Q (.panic c) (a.put oi.dst v) w->Q (.panic c) a w:=by exact(fun _ _ _ h=>h)) (hy:YieldsIf P ops S oi v a:=by(refine Or.inl ⟨rfl,?_⟩;rintro w' ⟨s0,s1,s2,s3,s4⟩;go_simp;with_reducible rfl)) (ha:a.put N v=a':=by(simp only[Act.put,zL,i64_w,i32_w];rfl)):wpAnyLast P md ops Q S ds (fuel+1) l a w:=
 take_ l' hi hN (take_ofW hT.out hW.out hc) hQ hy hS ha h
theorem tk6(i:Nat)(N:Option Tmp)(l':Array Bool)(hT:Aside0 (rtab md ops=T))(hW:Aside0 (waitsOk T.2 B=true))(hS:S w)(h:wpAnyLast P md ops Q S ds fuel l' a' w)(hi:ops[i]? =some oi:=by exact rfl)(hN:oi.dst=N:=by exact rfl)(hc:takeW T B ds l.toList l'.toList i=true:=by kernel_rfl)
 (hQ: ∀c a w,Q (.panic c) (a.put oi.dst v) w->Q (.panic c) a w:=by exact(fun _ _ _ h=>h)) (hy:YieldsIf P ops S oi v a:=by(refine Or.inl ⟨rfl,?_⟩;rintro w' ⟨s0,s1,s2,s3,s4,s5⟩;go_simp;with_reducible rfl)) (ha:a.put N v=a':=by(simp only[Act.put,zL,i64_w,i32_w];rfl)):wpAnyLast P md ops Q S ds (fuel+1) l a w:=
 take_ l' hi hN (take_ofW hT.out hW.out hc) hQ hy hS ha h
theorem tk7(i:Nat)(N:Option Tmp)(l':Array Bool)(hT:Aside0 (rtab md ops=T))(hW:Aside0 (waitsOk T.2 B=true))(hS:S w)(h:wpAnyLast P md ops Q S ds fuel l' a' w)(hi:ops[i]? =some oi:=by exact rfl)(hN:oi.dst=N:=by exact rfl)(hc:takeW T B ds l.toList l'.toList i=true:=by kernel_rfl)
 (hQ: ∀c a w,Q (.panic c) (a.put oi.dst v) w->Q (.panic c) a w:=by exact(fun _ _ _ h=>h)) (hy:YieldsIf P ops S oi v a:=by(refine Or.inl ⟨rfl,?_⟩;rintro w' ⟨s0,s1,s2,s3,s4,s5,s6⟩;go_simp;with_reducible rfl)) (ha:a.put N v=a':=by(simp only[Act.put,zL,i64_w,i32_w];rfl)):wpAnyLast P md ops Q S ds (fuel+1) l a w:=
 take_ l' hi hN (take_ofW hT.out hW.out hc) hQ hy hS ha h
theorem tk8(i:Nat)(N:Option Tmp)(l':Array Bool)(hT:Aside0 (rtab md ops=T))(hW:Aside0 (waitsOk T.2 B=true))(hS:S w)(h:wpAnyLast P md ops Q S ds fuel l' a' w)(hi:ops[i]? =some oi:=by exact rfl)(hN:oi.dst=N:=by exact rfl)(hc:takeW T B ds l.toList l'.toList i=true:=by kernel_rfl)
 (hQ: ∀c a w,Q (.panic c) (a.put oi.dst v) w->Q (.panic c) a w:=by exact(fun _ _ _ h=>h)) (hy:YieldsIf P ops S oi v a:=by(refine Or.inl ⟨rfl,?_⟩;rintro w' ⟨s0,s1,s2,s3,s4,s5,s6,s7⟩;go_simp;with_reducible rfl)) (ha:a.put N v=a':=by(simp only[Act.put,zL,i64_w,i32_w];rfl)):wpAnyLast P md ops Q S ds (fuel+1) l a w:=
 take_ l' hi hN (take_ofW hT.out hW.out hc) hQ hy hS ha h
theorem tk9(i:Nat)(N:Option Tmp)(l':Array Bool)(hT:Aside0 (rtab md ops=T))(hW:Aside0 (waitsOk T.2 B=true))(hS:S w)(h:wpAnyLast P md ops Q S ds fuel l' a' w)(hi:ops[i]? =some oi:=by exact rfl)(hN:oi.dst=N:=by exact rfl)(hc:takeW T B ds l.toList l'.toList i=true:=by kernel_rfl)
 (hQ: ∀c a w,Q (.panic c) (a.put oi.dst v) w->Q (.panic c) a w:=by exact(fun _ _ _ h=>h)) (hy:YieldsIf P ops S oi v a:=by(refine Or.inl ⟨rfl,?_⟩;rintro w' ⟨s0,s1,s2,s3,s4,s5,s6,s7,s8⟩;go_simp;with_reducible rfl)) (ha:a.put N v=a':=by(simp only[Act.put,zL,i64_w,i32_w];rfl)):wpAnyLast P md ops Q S ds (fuel+1) l a w:=
 take_ l' hi hN (take_ofW hT.out hW.out hc) hQ hy hS ha h
theorem tk10(i:Nat)(N:Option Tmp)(l':Array Bool)(hT:Aside0 (rtab md ops=T))(hW:Aside0 (waitsOk T.2 B=true))(hS:S w)(h:wpAnyLast P md ops Q S ds fuel l' a' w)(hi:ops[i]? =some oi:=by exact rfl)(hN:oi.dst=N:=by exact rfl)(hc:takeW T B ds l.toList l'.toList i=true:=by kernel_rfl)
 (hQ: ∀c a w,Q (.panic c) (a.put oi.dst v) w->Q (.panic c) a w:=by exact(fun _ _ _ h=>h)) (hy:YieldsIf P ops S oi v a:=by(refine Or.inl ⟨rfl,?_⟩;rintro w' ⟨s0,s1,s2,s3,s4,s5,s6,s7,s8,s9⟩;go_simp;with_reducible rfl)) (ha:a.put N v=a':=by(simp only[Act.put,zL,i64_w,i32_w];rfl)):wpAnyLast P md ops Q S ds (fuel+1) l a w:=
 take_ l' hi hN (take_ofW hT.out hW.out hc) hQ hy hS ha h
theorem tk11(i:Nat)(N:Option Tmp)(l':Array Bool)(hT:Aside0 (rtab md ops=T))(hW:Aside0 (waitsOk T.2 B=true))(hS:S w)(h:wpAnyLast P md ops Q S ds fuel l' a' w)(hi:ops[i]? =some oi:=by exact rfl)(hN:oi.dst=N:=by exact rfl)(hc:takeW T B ds l.toList l'.toList i=true:=by kernel_rfl)
 (hQ: ∀c a w,Q (.panic c) (a.put oi.dst v) w->Q (.panic c) a w:=by exact(fun _ _ _ h=>h)) (hy:YieldsIf P ops S oi v a:=by(refine Or.inl ⟨rfl,?_⟩;rintro w' ⟨s0,s1,s2,s3,s4,s5,s6,s7,s8,s9,s10⟩;go_simp;with_reducible rfl)) (ha:a.put N v=a':=by(simp only[Act.put,zL,i64_w,i32_w];rfl)):wpAnyLast P md ops Q S ds (fuel+1) l a w:=
 take_ l' hi hN (take_ofW hT.out hW.out hc) hQ hy hS ha h
theorem tk12(i:Nat)(N:Option Tmp)(l':Array Bool)(hT:Aside0 (rtab md ops=T))(hW:Aside0 (waitsOk T.2 B=true))(hS:S w)(h:wpAnyLast P md ops Q S ds fuel l' a' w)(hi:ops[i]? =some oi:=by exact rfl)(hN:oi.dst=N:=by exact rfl)(hc:takeW T B ds l.toList l'.toList i=true:=by kernel_rfl)
 (hQ: ∀c a w,Q (.panic c) (a.put oi.dst v) w->Q (.panic c) a w:=by exact(fun _ _ _ h=>h)) (hy:YieldsIf P ops S oi v a:=by(refine Or.inl ⟨rfl,?_⟩;rintro w' ⟨s0,s1,s2,s3,s4,s5,s6,s7,s8,s9,s10,s11⟩;go_simp;with_reducible rfl)) (ha:a.put N v=a':=by(simp only[Act.put,zL,i64_w,i32_w];rfl)):wpAnyLast P md ops Q S ds (fuel+1) l a w:=
 take_ l' hi hN (take_ofW hT.out hW.out hc) hQ hy hS ha h
end
end Go.Proofs.Ytnfemjnajfdepaa.Q
namespace Go.Proofs.Ytnfemjnajfdepaa.Q
open Go.RowKit Go.Proofs.YtnfemjnajfdepaaW.PrintWords Go.Proofs.YtnfemjnajfdepaaW.PrintLast Go.Proofs.YtnfemjnajfdepaaW.PrintMore
set_option linter.unusedVariables false
theorem aK{p:Prop}(h:p):Aside0 p:=⟨h⟩
theorem zF {α:Type} {d:Kd α} {e base t g:Nat} {ok:Nat→Prop} {w:World} {v:Value} {xs:List α} {cells:Array Value} (h:d.R e w base ok v xs) (hb:w.heap[g]? =some (.cells cells t (0,0))) (u0 u1 u2:Value) (ht: ∀q,q∈e::d.E→q≠t:=by decide):d.R e (((w.setCell ⟨g,0,none⟩ u0).setCell ⟨g,1,none⟩ u1).setCell ⟨g,2,none⟩ u2) base ok v xs:=Kd.R_mono (Kd.R_far (p:=⟨g,2,none⟩) (Kd.R_far (p:=⟨g,1,none⟩) (Kd.R_far (p:=⟨g,0,none⟩) (Kd.R_types h hb ht) (fun _ hk=>hk.2) u0) (fun _ hk=>hk.2) u1) (fun _ hk=>hk.2) u2) (fun _ h_=>h_.1)
section
variable {P:Program} {ops:Array Oper} {Q:Exit→Act→World→Prop} {md:Region.Mode} {S:World→Prop} {ds:List Nat} {T:Bool×List (List Nat×List Nat)} {oi:Oper} {v:Value} {fuel:Nat} {l:Array Bool} {a a':Act} {w:World}
theorem zpu (i:Nat) (N:Option Tmp) (l':Array Bool) (h:wpAnyLast P md ops Q S ds fuel l' a' w) (hi:ops[i]? =some oi:=by exact rfl) (hN:oi.dst=N:=by exact rfl) (hc:anyB md ops l l' i=true:=by kernel_rfl) (hQ: ∀c a w,Q (.panic c) (a.put oi.dst v) w→Q (.panic c) a w:=by exact (fun _ _ _ h=>h)) (hy:Yields P ops oi v a:=by (refine Or.inl ⟨by rfl,?_⟩;intro w';go_simp;with_reducible rfl)) (ha:a.put N v=a':=by (simp only[Act.put,zL,i64_w,i32_w];rfl)):wpAnyLast P md ops Q S ds (fuel+1) l a w:=pure_ l' hi hN hc hQ hy ha h
theorem ztk1 (i:Nat) (N:Option Tmp) (l':Array Bool) (hS:S w) (h:wpAnyLast P md ops Q S ds fuel l' a' w) (hi:ops[i]? =some oi:=by exact rfl) (hN:oi.dst=N:=by exact rfl) (hc:takeB md ops ds l l' i=true:=by kernel_rfl) (hQ: ∀c a w,Q (.panic c) (a.put oi.dst v) w→Q (.panic c) a w:=by exact (fun _ _ _ h=>h)) (hy:YieldsIf P ops S oi v a:=by (refine Or.inl ⟨by rfl,?_⟩;intro w' s0;go_simp;with_reducible rfl)) (ha:a.put N v=a':=by (simp only[Act.put,zL,i64_w,i32_w];rfl)):wpAnyLast P md ops Q S ds (fuel+1) l a w:=take_ l' hi hN hc hQ hy hS ha h
theorem ztk4 (i:Nat) (N:Option Tmp) (l':Array Bool) (hS:S w) (h:wpAnyLast P md ops Q S ds fuel l' a' w) (hi:ops[i]? =some oi:=by exact rfl) (hN:oi.dst=N:=by exact rfl) (hc:takeB md ops ds l l' i=true:=by kernel_rfl) (hQ: ∀c a w,Q (.panic c) (a.put oi.dst v) w→Q (.panic c) a w:=by exact (fun _ _ _ h=>h)) (hy:YieldsIf P ops S oi v a:=by (refine Or.inl ⟨by rfl,?_⟩;rintro w' ⟨s0,s1,s2,s3⟩;go_simp;with_reducible rfl)) (ha:a.put N v=a':=by (simp only[Act.put,zL,i64_w,i32_w];rfl)):wpAnyLast P md ops Q S ds (fuel+1) l a w:=take_ l' hi hN hc hQ hy hS ha h
theorem ztk6 (i:Nat) (N:Option Tmp) (l':Array Bool) (hS:S w) (h:wpAnyLast P md ops Q S ds fuel l' a' w) (hi:ops[i]? =some oi:=by exact rfl) (hN:oi.dst=N:=by exact rfl) (hc:takeB md ops ds l l' i=true:=by kernel_rfl) (hQ: ∀c a w,Q (.panic c) (a.put oi.dst v) w→Q (.panic c) a w:=by exact (fun _ _ _ h=>h)) (hy:YieldsIf P ops S oi v a:=by (refine Or.inl ⟨by rfl,?_⟩;rintro w' ⟨s0,s1,s2,s3,s4,s5⟩;go_simp;with_reducible rfl)) (ha:a.put N v=a':=by (simp only[Act.put,zL,i64_w,i32_w];rfl)):wpAnyLast P md ops Q S ds (fuel+1) l a w:=take_ l' hi hN hc hQ hy hS ha h
theorem zpn (i:Nat) (N:Option Tmp) (l':Array Bool) (h:wpAnyLast P md ops Q S ds fuel l' a' w) (hi:ops[i]? =some oi:=by exact rfl) (hN:oi.dst=N:=by exact rfl) (hc:anyB md ops l l' i=true:=by kernel_rfl) (hQ: ∀c a w,Q (.panic c) (a.put oi.dst undef) w→Q (.panic c) a w:=by exact (fun _ _ _ h=>h)) (hy:Yields P ops oi undef a:=by exact (Or.inr ⟨by rfl,rfl⟩)) (ha:a.put N undef=a':=by (simp only[Act.put,zL,i64_w,i32_w];rfl)):wpAnyLast P md ops Q S ds (fuel+1) l a w:=pure_ l' hi hN hc hQ hy ha h
theorem zon (i:Nat) (N:Option Tmp) (l':Array Bool) (h: ∀K:Act→World→Prop,Shut (∀a' w',S w'→(S w'→wpAnyLast P md ops Q S ds fuel l' a' w')→K a' w')→if Region.wanted oi (yielded ops a.tmps)=true then Oper.wp P oi a w K Q else K (a.put N undef) w) (hi:ops[i]? =some oi:=by exact rfl) (hN:oi.dst=N:=by exact rfl) (hc:readyB md ops l l' i=true:=by kernel_rfl) (hd:i∉ds:=by decide):wpAnyLast P md ops Q S ds (fuel+1) l a w:=one_ l' hi hN hc hd h
theorem zoh (i:Nat) (N:Option Tmp) (l':Array Bool) (hT:Aside0 (rtab md ops=T)) (h: ∀K:Act→World→Prop,Shut (∀a' w',S w'→(S w'→wpAnyLast P md ops Q S ds fuel l' a' w')→K a' w')→if Region.wanted oi (yielded ops a.tmps)=true then Oper.wp P oi a w K Q else K (a.put N undef) w) (hi:ops[i]? =some oi:=by exact rfl) (hN:oi.dst=N:=by exact rfl) (hc:(readyT T.2 l.toList==[i]&&l.toList.set i true==l'.toList)=true:=by kernel_rfl) (hd:i∉ds:=by decide):wpAnyLast P md ops Q S ds (fuel+1) l a w:=one_ l' hi hN (one_of hT.out hc) hd h
theorem zln (i:Nat) (N:Option Tmp) (l':Array Bool) (h: ∀K:Act→World→Prop,Shut (∀a' w',wpAnyLast P md ops Q S ds fuel l' a' w'→K a' w')→if Region.wanted oi (yielded ops a.tmps)=true then Oper.wp P oi a w K Q else K (a.put N undef) w) (hi:ops[i]? =some oi:=by exact rfl) (hN:oi.dst=N:=by exact rfl) (hc:readyB md ops l l' i=true:=by kernel_rfl) (hd:i∈ds:=by decide):wpAnyLast P md ops Q S ds (fuel+1) l a w:=last_ l' hi hN hc hd h
theorem zlh (i:Nat) (N:Option Tmp) (l':Array Bool) (hT:Aside0 (rtab md ops=T)) (h: ∀K:Act→World→Prop,Shut (∀a' w',wpAnyLast P md ops Q S ds fuel l' a' w'→K a' w')→if Region.wanted oi (yielded ops a.tmps)=true then Oper.wp P oi a w K Q else K (a.put N undef) w) (hi:ops[i]? =some oi:=by exact rfl) (hN:oi.dst=N:=by exact rfl) (hc:(readyT T.2 l.toList==[i]&&l.toList.set i true==l'.toList)=true:=by kernel_rfl) (hd:i∈ds:=by decide):wpAnyLast P md ops Q S ds (fuel+1) l a w:=last_ l' hi hN (one_of hT.out hc) hd h
theorem znm (N:Option Tmp) {x:Act} (h:wpAnyLast P md ops Q S ds fuel l a' w) (ha:Act.put x N v=a':=by (simp only[Act.put,zL,i64_w,i32_w];rfl)):wpAnyLast P md ops Q S ds fuel l (Act.put x N v) w:=norm_ ha h
theorem znq (h:wpAnyLast P md ops Q S ds fuel l a' w) (ha:a=a':=by (simp only[putAll,Act.put,zL];rfl)):wpAnyLast P md ops Q S ds fuel l a w:=norm_ ha h
theorem zsk {w1:World} {K:Act→World→Prop} (h:K a w1) (hw:Region.wanted oi (yielded ops a.tmps)=true:=by rfl) (hN:oi.dst=none:=by exact rfl) (hrun:(execOp a.eval oi).run P w=.ok .skip w1:=by (go_simp;rfl)):if Region.wanted oi (yielded ops a.tmps)=true then Oper.wp P oi a w K Q else K (a.put none undef) w:=skip_ hw hN hrun h
end
section
theorem zH{α:Type}{a b:α}{p q:Prop}(e:a=b) (H:q) (h:a=b→q→p:=by intro e_ H;first|(rw[e_];with_reducible exact H)|(have H2_:=(Option.bind_some _ _).symm.trans H;rw[e_];with_reducible exact H2_)|(have H2_:=(Option.bind_some _ _).symm.trans H;with_reducible exact H2_)|with_reducible exact H|(rw[e_];exact H)|exact H):p:=h e H
theorem zD{p q:Prop}(a:p:=by first|rfl|(simp;done)|(simp[*];done)) (b:q:=by repeat (first|exact Drawn0.refl _|apply Drawn0.step)):p∧q:=⟨a,b⟩
theorem zP2{A B:Type}{a a':A}{b b':B}(h:some (a,b)=some (a',b')):a=a'∧b=b':=by simpa only[Option.some.injEq,Prod.mk.injEq] using h
theorem zP3{A B C:Type}{a a':A}{b b':B}{c c':C}(h:some (a,b,c)=some (a',b',c')):a=a'∧b=b'∧c=c':=by simpa only[Option.some.injEq,Prod.mk.injEq] using h
theorem zP4{A B C D:Type}{a a':A}{b b':B}{c c':C}{d d':D}(h:some (a,b,c,d)=some (a',b',c',d')):a=a'∧b=b'∧c=c'∧d=d':=by simpa only[Option.some.injEq,Prod.mk.injEq] using h
theorem z3c{w:World}{g t:Nat}{cs:Array Value}{a b c:Value}(h:Aside0 (w.heap[g]? =some (.cells cs t (0,0)))) (h0:cs[0]? =some a:=by rfl) (h1:cs[1]? =some b:=by rfl) (h2:cs[2]? =some c:=by rfl):w.cell? ⟨g,0,none⟩=some a∧w.cell? ⟨g,1,none⟩=some b∧w.cell? ⟨g,2,none⟩=some c:=⟨(blk_cell h.out 0).trans h0,(blk_cell h.out 1).trans h1,(blk_cell h.out 2).trans h2⟩
theorem z3k{w:World}{g t:Nat}{cs:Array Value}{a b c:Value}(h:Aside0 (w.heap[g]? =some (.cells cs t (0,0)))){R:Prop}(r:R) (h0:cs[0]? =some a:=by rfl) (h1:cs[1]? =some b:=by rfl) (h2:cs[2]? =some c:=by rfl):w.cell? ⟨g,0,none⟩=some a∧w.cell? ⟨g,1,none⟩=some b∧w.cell? ⟨g,2,none⟩=some c∧R:=⟨(blk_cell h.out 0).trans h0,(blk_cell h.out 1).trans h1,(blk_cell h.out 2).trans h2,r⟩
end
end Go.Proofs.Ytnfemjnajfdepaa.Q
namespace Go.Proofs.Ytnfemjnajfdepaa.Q
open RowKit YtnfemjnajfdepaaW.PrintWords YtnfemjnajfdepaaW.PrintLast YtnfemjnajfdepaaW.PrintMore
attribute [local go_sem] max2_int min2_int max_two min_two max_three min_three max_four min_four
def errW:Option Int->Value
 |none=> .nilIface
 |some c=> .iface 0 (.int .i64 c)
theorem errW_none:errW none= .nilIface:=rfl
theorem errW_some(c:Int):errW (some c)= .iface 0 (.int .i64 c):=rfl
theorem info3:(Try.prog.info? 3).map (fun i=>(i.zero,i.size,i.bytes))=some (some (.int .i64 0),1,8):=by kernel_rfl
theorem info5:(Try.prog.info? 5).map (fun i=>(i.zero,i.size,i.bytes))=some (some (.int .u8 0),1,1):=by kernel_rfl
theorem info45:(Try.prog.info? 45).map (fun i=>(i.zero,i.size,i.bytes))=some (some (.slice none 0 0),1,24):=by kernel_rfl
theorem info59:(Try.prog.info? 59).map (fun i=>(i.zero,i.size,i.bytes))=some (some (.slice none 0 0),1,24):=by kernel_rfl
theorem info61:(Try.prog.info? 61).map (fun i=>(i.zero,i.size,i.bytes))=some (some (.agg #[(.int .i64 0),(.int .u8 0)]),2,16):=by kernel_rfl
structure S61 where
 f0:Int
 f1:Int
def z61:S61:=⟨(0:Int),(0:Int)⟩
def k61:Kd S61:=Kd.iso (Kd.pair (Kd.int .i64) (Kd.int .u8)) (fun x:S61=>(x.f0,x.f1))
theorem k61_heap:Kd.Heap k61:=Kd.heap_iso _ (Kd.heap_pair (Kd.heap_int .i64) (Kd.heap_int .u8))
theorem k61_open{w:World}{x:S61}{cs:List Value}(h:k61.K w x cs):cs= [.int .i64 x.f0,.int .u8 x.f1]:=by
 obtain⟨_,_,rfl,rfl,rfl⟩:=h;exact rfl
theorem k61_openM{w:World}{base:Nat}{ok:Nat->Prop}{x:S61}{cs:List Value}(h:k61.M w base ok x cs):cs= [.int .i64 x.f0,.int .u8 x.f1]:=by
 obtain⟨_,_,rfl,rfl,rfl⟩:=h;exact rfl
theorem k61_mk(w:World)(x:S61):k61.K w x [.int .i64 x.f0,.int .u8 x.f1]:=⟨[.int .i64 x.f0],[.int .u8 x.f1],rfl,rfl,rfl⟩
theorem k61_mkM(w:World)(base:Nat)(ok:Nat->Prop)(x:S61):k61.M w base ok x [.int .i64 x.f0,.int .u8 x.f1]:=⟨[.int .i64 x.f0],[.int .u8 x.f1],rfl,rfl,rfl⟩
theorem k61_mkF(W:World)(ok:Nat->Prop)(x:S61):Kd.FK k61 W ok x [.int .i64 x.f0,.int .u8 x.f1]:=fun W2 _=>k61_mk W2 x
def rd_T61(xs:List S61)(i:Int):S61:=xs.getD i.toNat z61
theorem at_T61{w:World}{A:Option Addr}{n:Nat}{xs:List S61}(h:Kd.C k61 w A n xs)(i:Int)(h0:0<=i)(h1:i<n): ∃ad,A=some ad/\w.cell? (ad.add (i.toNat*2))=some (.int .i64 (rd_T61 xs i).f0)/\w.cell? ⟨(ad.add (i.toNat*2)).block,(ad.add (i.toNat*2)).off+1,none⟩=some (.int .u8 (rd_T61 xs i).f1):=by
 obtain⟨ad,c,e,_,hK,D⟩:=Kd.C_get h z61 i h0 h1;have hc: ∀j u,c[j]? =some u->w.cell? (ad.add (i.toNat*2+j))=some u:=D;obtain rfl:=k61_open hK;exact⟨ad,e,hc 0 _ rfl,by rw[<-add_field _ _ 1 zaa];exact hc 1 _ rfl⟩
def rd_L3(xs:List (List Int))(i:Int):(List Int):=xs.getD i.toNat ([]:List Int)
theorem at_L3{w:World}{A:Option Addr}{n:Nat}{xs:List (List Int)}(h:Kd.C (Kd.slice 3 (Kd.int .i64)) w A n xs)(i:Int)(h0:0<=i)(h1:i<n): ∃ad A0 c0,A=some ad/\w.cell? (ad.add i.toNat)=some (.slice A0 (rd_L3 xs i).length c0)/\(rd_L3 xs i).length<=c0/\(Kd.int .i64).C w A0 (rd_L3 xs i).length (rd_L3 xs i):=by
 obtain⟨ad,c,e,_,hK,D⟩:=Kd.C_get h ([]:List Int) i h0 h1;have hc: ∀j u,c[j]? =some u->w.cell? (ad.add (i.toNat*1+j))=some u:=D;obtain⟨A0,c0,rfl,l0,g0⟩:=hK;exact⟨ad,A0,c0,e,by have hq:=hc 0 _ rfl;rwa [Nat.mul_one,Nat.add_zero]at hq,l0,g0⟩
def rd_L5(xs:List (List S61))(i:Int):(List S61):=xs.getD i.toNat ([]:List S61)
theorem at_L5{w:World}{A:Option Addr}{n:Nat}{xs:List (List S61)}(h:Kd.C (Kd.slice 61 k61) w A n xs)(i:Int)(h0:0<=i)(h1:i<n): ∃ad A0 c0,A=some ad/\w.cell? (ad.add i.toNat)=some (.slice A0 (rd_L5 xs i).length c0)/\(rd_L5 xs i).length<=c0/\k61.C w A0 (rd_L5 xs i).length (rd_L5 xs i):=by
 obtain⟨ad,c,e,_,hK,D⟩:=Kd.C_get h ([]:List S61) i h0 h1;have hc: ∀j u,c[j]? =some u->w.cell? (ad.add (i.toNat*1+j))=some u:=D;obtain⟨A0,c0,rfl,l0,g0⟩:=hK;exact⟨ad,A0,c0,e,by have hq:=hc 0 _ rfl;rwa [Nat.mul_one,Nat.add_zero]at hq,l0,g0⟩
def rd_L6(xs:List (List (List S61)))(i:Int):(List (List S61)):=xs.getD i.toNat ([]:List (List S61))
theorem at_L6{w:World}{A:Option Addr}{n:Nat}{xs:List (List (List S61))}(h:Kd.C (Kd.slice 59 (Kd.slice 61 k61)) w A n xs)(i:Int)(h0:0<=i)(h1:i<n): ∃ad A0 c0,A=some ad/\w.cell? (ad.add i.toNat)=some (.slice A0 (rd_L6 xs i).length c0)/\(rd_L6 xs i).length<=c0/\(Kd.slice 61 k61).C w A0 (rd_L6 xs i).length (rd_L6 xs i):=by
 obtain⟨ad,c,e,_,hK,D⟩:=Kd.C_get h ([]:List (List S61)) i h0 h1;have hc: ∀j u,c[j]? =some u->w.cell? (ad.add (i.toNat*1+j))=some u:=D;obtain⟨A0,c0,rfl,l0,g0⟩:=hK;exact⟨ad,A0,c0,e,by have hq:=hc 0 _ rfl;rwa [Nat.mul_one,Nat.add_zero]at hq,l0,g0⟩
structure S25 where
 f0:(List Int)
 f1:(List (List S61))
 f2:(List Int)
def z25:S25:=⟨([]:List Int),([]:List (List S61)),([]:List Int)⟩
def k25:Kd S25:=Kd.iso (Kd.pair (Kd.slice 3 (Kd.int .i64)) (Kd.pair (Kd.slice 59 (Kd.slice 61 k61)) (Kd.slice 3 (Kd.int .i64)))) (fun x:S25=>(x.f0,x.f1,x.f2))
theorem k25_heap:Kd.Heap k25:=Kd.heap_iso _ (Kd.heap_pair (Kd.heap_slice 3 (Kd.heap_int .i64)) (Kd.heap_pair (Kd.heap_slice 59 (Kd.heap_slice 61 k61_heap)) (Kd.heap_slice 3 (Kd.heap_int .i64))))
theorem k25_open{w:World}{x:S25}{cs:List Value}(h:k25.K w x cs): ∃A0 c0 A1 c1 A2 c2,cs= [.slice A0 x.f0.length c0,.slice A1 x.f1.length c1,.slice A2 x.f2.length c2]/\x.f0.length<=c0/\(Kd.int .i64).C w A0 x.f0.length x.f0/\x.f1.length<=c1/\(Kd.slice 61 k61).C w A1 x.f1.length x.f1/\x.f2.length<=c2/\(Kd.int .i64).C w A2 x.f2.length x.f2:=by
 obtain⟨_,_,rfl,⟨A0,c0,rfl,l0,g0⟩,⟨_,_,rfl,⟨A1,c1,rfl,l1,g1⟩,⟨A2,c2,rfl,l2,g2⟩⟩⟩:=h;exact⟨A0,c0,A1,c1,A2,c2,rfl,l0,g0,l1,g1,l2,g2⟩
theorem k25_openM{w:World}{base:Nat}{ok:Nat->Prop}{x:S25}{cs:List Value}(h:k25.M w base ok x cs): ∃v0 v1 v2,cs= [v0,v1,v2]/\(Kd.int .i64).R 3 w base ok v0 x.f0/\(Kd.slice 61 k61).R 59 w base ok v1 x.f1/\(Kd.int .i64).R 3 w base ok v2 x.f2:=by
 obtain⟨_,_,rfl,⟨v0,rfl,g0⟩,⟨_,_,rfl,⟨v1,rfl,g1⟩,⟨v2,rfl,g2⟩⟩⟩:=h;exact⟨v0,v1,v2,rfl,g0,g1,g2⟩
theorem k25_mk(w:World)(x:S25){A0:Option Addr}{c0:Nat}(l0:x.f0.length<=c0)(g0:(Kd.int .i64).C w A0 x.f0.length x.f0){A1:Option Addr}{c1:Nat}(l1:x.f1.length<=c1)(g1:(Kd.slice 61 k61).C w A1 x.f1.length x.f1){A2:Option Addr}{c2:Nat}(l2:x.f2.length<=c2)(g2:(Kd.int .i64).C w A2 x.f2.length x.f2):k25.K w x [.slice A0 x.f0.length c0,.slice A1 x.f1.length c1,.slice A2 x.f2.length c2]:=⟨[.slice A0 x.f0.length c0],[.slice A1 x.f1.length c1,.slice A2 x.f2.length c2],rfl,⟨A0,c0,rfl,l0,g0⟩,⟨[.slice A1 x.f1.length c1],[.slice A2 x.f2.length c2],rfl,⟨A1,c1,rfl,l1,g1⟩,⟨A2,c2,rfl,l2,g2⟩⟩⟩
theorem k25_mkM(w:World)(base:Nat)(ok:Nat->Prop)(x:S25){v0:Value}(g0:(Kd.int .i64).R 3 w base ok v0 x.f0){v1:Value}(g1:(Kd.slice 61 k61).R 59 w base ok v1 x.f1){v2:Value}(g2:(Kd.int .i64).R 3 w base ok v2 x.f2):k25.M w base ok x [v0,v1,v2]:=⟨[v0],[v1,v2],rfl,⟨v0,rfl,g0⟩,⟨[v1],[v2],rfl,⟨v1,rfl,g1⟩,⟨v2,rfl,g2⟩⟩⟩
theorem k25_openF{W:World}{ok:Nat->Prop}{x:S25}{cs:List Value}(h:Kd.FK k25 W ok x cs): ∃A0 c0 A1 c1 A2 c2,cs= [.slice A0 x.f0.length c0,.slice A1 x.f1.length c1,.slice A2 x.f2.length c2]/\x.f0.length<=c0/\Kd.F (Kd.int .i64) W ok A0 x.f0.length x.f0/\x.f1.length<=c1/\Kd.F (Kd.slice 61 k61) W ok A1 x.f1.length x.f1/\x.f2.length<=c2/\Kd.F (Kd.int .i64) W ok A2 x.f2.length x.f2:=by
 obtain⟨A0,c0,A1,c1,A2,c2,rfl,l0,_,l1,_,l2,_⟩:=k25_open (Kd.FK_now h);exact⟨A0,c0,A1,c1,A2,c2,rfl,l0,(fun W' hW=>by obtain⟨A0_,c0_,A1_,c1_,A2_,c2_,he,l0_,g0_,l1_,g1_,l2_,g2_⟩:=k25_open (h W' hW);injection (Option.some.inj (show some (Value.slice A0 x.f0.length c0)=some (Value.slice A0_ x.f0.length c0_)from congrArg (fun l=>l[0]?) he))with ha_ _ _;rw[ha_];exact g0_),l1,(fun W' hW=>by obtain⟨A0_,c0_,A1_,c1_,A2_,c2_,he,l0_,g0_,l1_,g1_,l2_,g2_⟩:=k25_open (h W' hW);injection (Option.some.inj (show some (Value.slice A1 x.f1.length c1)=some (Value.slice A1_ x.f1.length c1_)from congrArg (fun l=>l[1]?) he))with ha_ _ _;rw[ha_];exact g1_),l2,(fun W' hW=>by obtain⟨A0_,c0_,A1_,c1_,A2_,c2_,he,l0_,g0_,l1_,g1_,l2_,g2_⟩:=k25_open (h W' hW);injection (Option.some.inj (show some (Value.slice A2 x.f2.length c2)=some (Value.slice A2_ x.f2.length c2_)from congrArg (fun l=>l[2]?) he))with ha_ _ _;rw[ha_];exact g2_)⟩
theorem k25_mkF(W:World)(ok:Nat->Prop)(x:S25){A0:Option Addr}{c0:Nat}(l0:x.f0.length<=c0)(g0:Kd.F (Kd.int .i64) W ok A0 x.f0.length x.f0){A1:Option Addr}{c1:Nat}(l1:x.f1.length<=c1)(g1:Kd.F (Kd.slice 61 k61) W ok A1 x.f1.length x.f1){A2:Option Addr}{c2:Nat}(l2:x.f2.length<=c2)(g2:Kd.F (Kd.int .i64) W ok A2 x.f2.length x.f2):Kd.FK k25 W ok x [.slice A0 x.f0.length c0,.slice A1 x.f1.length c1,.slice A2 x.f2.length c2]:=fun W2 hW=>k25_mk W2 x l0 (g0 W2 hW) l1 (g1 W2 hW) l2 (g2 W2 hW)
def rd_T25(xs:List S25)(i:Int):S25:=xs.getD i.toNat z25
theorem at_T25{w:World}{A:Option Addr}{n:Nat}{xs:List S25}(h:Kd.C k25 w A n xs)(i:Int)(h0:0<=i)(h1:i<n): ∃ad A0 c0 A1 c1 A2 c2,A=some ad/\w.cell? (ad.add (i.toNat*3))=some (.slice A0 (rd_T25 xs i).f0.length c0)/\w.cell? ⟨(ad.add (i.toNat*3)).block,(ad.add (i.toNat*3)).off+1,none⟩=some (.slice A1 (rd_T25 xs i).f1.length c1)/\w.cell? ⟨(ad.add (i.toNat*3)).block,(ad.add (i.toNat*3)).off+2,none⟩=some (.slice A2 (rd_T25 xs i).f2.length c2)/\(rd_T25 xs i).f0.length<=c0/\(Kd.int .i64).C w A0 (rd_T25 xs i).f0.length (rd_T25 xs i).f0/\(rd_T25 xs i).f1.length<=c1/\(Kd.slice 61 k61).C w A1 (rd_T25 xs i).f1.length (rd_T25 xs i).f1/\(rd_T25 xs i).f2.length<=c2/\(Kd.int .i64).C w A2 (rd_T25 xs i).f2.length (rd_T25 xs i).f2:=by
 obtain⟨ad,c,e,_,hK,D⟩:=Kd.C_get h z25 i h0 h1;have hc: ∀j u,c[j]? =some u->w.cell? (ad.add (i.toNat*3+j))=some u:=D;obtain⟨A0,c0,A1,c1,A2,c2,rfl,l0,g0,l1,g1,l2,g2⟩:=k25_open hK;exact⟨ad,A0,c0,A1,c1,A2,c2,e,hc 0 _ rfl,by rw[<-add_field _ _ 1 zaa];exact hc 1 _ rfl,by rw[<-add_field _ _ 2 zaa];exact hc 2 _ rfl,l0,g0,l1,g1,l2,g2⟩
structure S27 where
 f0:Int
 f1:Int
 f2:Int
 f3:Int
def z27:S27:=⟨(0:Int),(0:Int),(0:Int),(0:Int)⟩
def k27:Kd S27:=Kd.iso (Kd.pair (Kd.int .i64) (Kd.pair (Kd.int .i64) (Kd.pair (Kd.int .u8) (Kd.int .i64)))) (fun x:S27=>(x.f0,x.f1,x.f2,x.f3))
theorem k27_heap:Kd.Heap k27:=Kd.heap_iso _ (Kd.heap_pair (Kd.heap_int .i64) (Kd.heap_pair (Kd.heap_int .i64) (Kd.heap_pair (Kd.heap_int .u8) (Kd.heap_int .i64))))
theorem k27_open{w:World}{x:S27}{cs:List Value}(h:k27.K w x cs):cs= [.int .i64 x.f0,.int .i64 x.f1,.int .u8 x.f2,.int .i64 x.f3]:=by
 obtain⟨_,_,rfl,rfl,⟨_,_,rfl,rfl,⟨_,_,rfl,rfl,rfl⟩⟩⟩:=h;exact rfl
theorem k27_openM{w:World}{base:Nat}{ok:Nat->Prop}{x:S27}{cs:List Value}(h:k27.M w base ok x cs):cs= [.int .i64 x.f0,.int .i64 x.f1,.int .u8 x.f2,.int .i64 x.f3]:=by
 obtain⟨_,_,rfl,rfl,⟨_,_,rfl,rfl,⟨_,_,rfl,rfl,rfl⟩⟩⟩:=h;exact rfl
theorem k27_mk(w:World)(x:S27):k27.K w x [.int .i64 x.f0,.int .i64 x.f1,.int .u8 x.f2,.int .i64 x.f3]:=⟨[.int .i64 x.f0],[.int .i64 x.f1,.int .u8 x.f2,.int .i64 x.f3],rfl,rfl,⟨[.int .i64 x.f1],[.int .u8 x.f2,.int .i64 x.f3],rfl,rfl,⟨[.int .u8 x.f2],[.int .i64 x.f3],rfl,rfl,rfl⟩⟩⟩
theorem k27_mkM(w:World)(base:Nat)(ok:Nat->Prop)(x:S27):k27.M w base ok x [.int .i64 x.f0,.int .i64 x.f1,.int .u8 x.f2,.int .i64 x.f3]:=⟨[.int .i64 x.f0],[.int .i64 x.f1,.int .u8 x.f2,.int .i64 x.f3],rfl,rfl,⟨[.int .i64 x.f1],[.int .u8 x.f2,.int .i64 x.f3],rfl,rfl,⟨[.int .u8 x.f2],[.int .i64 x.f3],rfl,rfl,rfl⟩⟩⟩
theorem k27_mkF(W:World)(ok:Nat->Prop)(x:S27):Kd.FK k27 W ok x [.int .i64 x.f0,.int .i64 x.f1,.int .u8 x.f2,.int .i64 x.f3]:=fun W2 _=>k27_mk W2 x
def rd_T27(xs:List S27)(i:Int):S27:=xs.getD i.toNat z27
theorem at_T27{w:World}{A:Option Addr}{n:Nat}{xs:List S27}(h:Kd.C k27 w A n xs)(i:Int)(h0:0<=i)(h1:i<n): ∃ad,A=some ad/\w.cell? (ad.add (i.toNat*4))=some (.int .i64 (rd_T27 xs i).f0)/\w.cell? ⟨(ad.add (i.toNat*4)).block,(ad.add (i.toNat*4)).off+1,none⟩=some (.int .i64 (rd_T27 xs i).f1)/\w.cell? ⟨(ad.add (i.toNat*4)).block,(ad.add (i.toNat*4)).off+2,none⟩=some (.int .u8 (rd_T27 xs i).f2)/\w.cell? ⟨(ad.add (i.toNat*4)).block,(ad.add (i.toNat*4)).off+3,none⟩=some (.int .i64 (rd_T27 xs i).f3):=by
 obtain⟨ad,c,e,_,hK,D⟩:=Kd.C_get h z27 i h0 h1;have hc: ∀j u,c[j]? =some u->w.cell? (ad.add (i.toNat*4+j))=some u:=D;obtain rfl:=k27_open hK;exact⟨ad,e,hc 0 _ rfl,by rw[<-add_field _ _ 1 zaa];exact hc 1 _ rfl,by rw[<-add_field _ _ 2 zaa];exact hc 2 _ rfl,by rw[<-add_field _ _ 3 zaa];exact hc 3 _ rfl⟩
def rd_L9(xs:List (List Int))(i:Int):(List Int):=xs.getD i.toNat ([]:List Int)
theorem at_L9{w:World}{A:Option Addr}{n:Nat}{xs:List (List Int)}(h:Kd.C (Kd.slice 5 (Kd.int .u8)) w A n xs)(i:Int)(h0:0<=i)(h1:i<n): ∃ad A0 c0,A=some ad/\w.cell? (ad.add i.toNat)=some (.slice A0 (rd_L9 xs i).length c0)/\(rd_L9 xs i).length<=c0/\(Kd.int .u8).C w A0 (rd_L9 xs i).length (rd_L9 xs i):=by
 obtain⟨ad,c,e,_,hK,D⟩:=Kd.C_get h ([]:List Int) i h0 h1;have hc: ∀j u,c[j]? =some u->w.cell? (ad.add (i.toNat*1+j))=some u:=D;obtain⟨A0,c0,rfl,l0,g0⟩:=hK;exact⟨ad,A0,c0,e,by have hq:=hc 0 _ rfl;rwa [Nat.mul_one,Nat.add_zero]at hq,l0,g0⟩
def flow_terms.l0:Nat->Int->Int->List (S61)->Int->Int->Option (Bool)
 |0,_,_,_,_,_=>none
 |k+1,x1,x5,x8,x9,D=>if D<x9 then(if 0<=D then(if D<(x8.length:Int)then(if((rd_T61 x8 D).f0)<=x5 then(some false)else(if((rd_T61 x8 D).f0)>=x1 then(some false)else(if((rd_T61 x8 D).f1)=0 then(some false)else(flow_terms.l0 k x1 ((rd_T61 x8 D).f0) x8 x9 (wrap64 (D+1))))))else(none))else(none))else(some true)
def flow_terms.f(k:Nat)(l0:List (S61))(a1:Int):Option (Bool):=flow_terms.l0 k a1 (-1) l0 (l0.length:Int) 0
theorem flow_terms.mono_l: ∀k,(∀y0 y1 y2 y3 y4,LeO (flow_terms.l0 k y0 y1 y2 y3 y4) (flow_terms.l0 (k+1) y0 y1 y2 y3 y4))
 |0=>fun _ _ _ _ _ r h=>by simp[flow_terms.l0]at h
 |k+1=>by
  have D:=flow_terms.mono_l k
  ·intro y0 y1 y2 y3 y4;unfold flow_terms.l0
   with_reducible repeat' first|exact D _ _ _ _ _|exact LeO.refl _|exact LeO.none _|refine LeO.ite ?_ ?_|refine LeO.bind ?_ (fun _=>?_)
theorem flow_terms.mono: ∀a0 a1 k,LeO (flow_terms.f k a0 a1) (flow_terms.f (k+1) a0 a1):=by
 intro a0 a1 k;have D:=flow_terms.mono_l k;unfold flow_terms.f
 with_reducible repeat' first|exact D _ _ _ _ _|exact LeO.refl _|exact LeO.none _|refine LeO.ite ?_ ?_|refine LeO.bind ?_ (fun _=>?_)
theorem flow_terms.calls(k:Nat)(A0:Option Addr)(c0:Nat)(l0:List (S61))(a1:Int)(r:Bool)(w:World)(av:Kd.C k61 w A0 l0.length l0)(ag:l0.length<=c0)(h:flow_terms.f k l0 a1=some r):
 Calls Try.prog 35 #[.slice A0 l0.length c0,.int .i64 a1] w fun e w'=>e= .returned (.bool r)/\Below w.heap.size w w':=by
 have a2:=Try.underlying61;have ae:=aK av;have a3:=aK ag;clear av ag;have HB:=aK (Below.refl w.heap.size w);have H:(flow_terms.l0 k a1 (-1) l0 (l0.length:Int) 0)=some r:=h;clear h;have H':=aK H;clear H
 go_enter Try.func35,Try.ntmps35
 go_wp2
 go_loopg [5,10] k (fun kq v5 a0 w'=> ∃(X:Int) (D:Int),v5= .int .i64 X/\a0= .int .i64 D/\Aside0 (flow_terms.l0 kq a1 X l0 (l0.length:Int) D=some r)/\Aside0 (kq<=k)/\Aside0 (Below w.heap.size w w'))
 case atStart=>exact⟨((-1)),(0),rsE,rsE,H',⟨Nat.le_refl _⟩,⟨hbA HB.out⟩⟩
 case round=>
  clear H'
  (try clear p2)
  obtain⟨X,D,rfl,rfl,HA,af,HB⟩:=hrel
  cases gk with
  |zero=>exact absurd HA.out (by simp[flow_terms.l0])
  |succ k1=>
   have H:=HA.out;clear HA;simp only[flow_terms.l0]at H;by_cases c3:D<(l0.length:Int)
   case neg=>
    rw[if_neg c3]at H
    have c3b0:decide (D<(l0.length:Int))=false:=decide_eq_false c3;clear c3;obtain rfl:=Option.some.inj H;go_wp2
    go_ret
    exact⟨rfE,hbA HB.out⟩
   rw[if_pos c3]at H
   have c3b0:decide (D<(l0.length:Int))=true:=decide_eq_true c3;clear c3;by_cases c4:0<=D
   case neg=>rw[if_neg c4]at H;exact absurd H zac
   rw[if_pos c4]at H
   have c4b0:decide (0<=D)=true:=decide_eq_true c4;clear c4;by_cases c5:D<(l0.length:Int)
   case neg=>rw[if_neg c5]at H;exact absurd H zac
   rw[if_pos c5]at H
   have c5b0:decide (D<(l0.length:Int))=true:=decide_eq_true c5;clear c5;by_cases c6:((rd_T61 l0 D).f0)<=X
   ·rw[if_pos c6]at H
    have c6b0:decide (((rd_T61 l0 D).f0)<=X)=true:=decide_eq_true c6;clear c6;obtain rfl:=Option.some.inj H;have J:0<=(D:Int):=of_decide_eq_true asE;have L:D<(l0.length:Int):=of_decide_eq_true asE;obtain⟨aa,U,G,I⟩:=at_T61 ae.out D J L
    cases U
    replace G:=(HB.out.cell (World.block_lt_of_cell? w _ G)).trans G;replace I:=(HB.out.cell (World.block_lt_of_cell? w _ I)).trans I;replace J:=eq_true J;replace L:=eq_true L
    go_wp2_with (first|((with_reducible refine gD 7 rfl ?_);refine bE 7 #[.int .i64 0,.int .u8 0] 61 ?_;intro ac hg w7 hbox hb;have O:=aK (hbox);have Z:=hbS HB hg;have Y:=hbS HB hg;replace HB:=hbB HB hb;clear hb hbox hg;obtain⟨aw,ax,ay,az⟩:=cell2 O))
    go_ret
    exact⟨rfE,hbA HB.out⟩
   rw[if_neg c6]at H
   have c6b0:decide (((rd_T61 l0 D).f0)<=X)=false:=decide_eq_false c6;clear c6;by_cases c9:((rd_T61 l0 D).f0)>=a1
   ·rw[if_pos c9]at H
    have c9b0:decide (a1<=((rd_T61 l0 D).f0))=true:=decide_eq_true c9;clear c9;obtain rfl:=Option.some.inj H;have J:0<=(D:Int):=of_decide_eq_true asE;have L:D<(l0.length:Int):=of_decide_eq_true asE;obtain⟨aa,U,G,I⟩:=at_T61 ae.out D J L
    cases U
    replace G:=(HB.out.cell (World.block_lt_of_cell? w _ G)).trans G;replace I:=(HB.out.cell (World.block_lt_of_cell? w _ I)).trans I;replace J:=eq_true J;replace L:=eq_true L
    go_wp2_with (first|((with_reducible refine gD 7 rfl ?_);refine bE 7 #[.int .i64 0,.int .u8 0] 61 ?_;intro ac hg a4 hbox hb;have O:=aK (hbox);have Z:=hbS HB hg;have Y:=hbS HB hg;replace HB:=hbB HB hb;clear hb hbox hg;obtain⟨ah,ai,an,ao⟩:=cell2 O))
    go_ret
    exact⟨rfE,hbA HB.out⟩
   rw[if_neg c9]at H
   have c9b0:decide (a1<=((rd_T61 l0 D).f0))=false:=decide_eq_false c9;clear c9;by_cases ab:((rd_T61 l0 D).f1)=0
   ·rw[if_pos ab]at H
    have c12b0:(((rd_T61 l0 D).f1)==0)=true:=beq_iff_eq.mpr ab;have c12b1:(((rd_T61 l0 D).f1)!=0)=false:=bne_eq_false_iff_eq.mpr ab;clear ab;obtain rfl:=Option.some.inj H;have J:0<=(D:Int):=of_decide_eq_true asE;have L:D<(l0.length:Int):=of_decide_eq_true asE;obtain⟨aa,U,G,I⟩:=at_T61 ae.out D J L
    cases U
    replace G:=(HB.out.cell (World.block_lt_of_cell? w _ G)).trans G;replace I:=(HB.out.cell (World.block_lt_of_cell? w _ I)).trans I;replace J:=eq_true J;replace L:=eq_true L
    go_wp2_with (first|((with_reducible refine gD 7 rfl ?_);refine bE 7 #[.int .i64 0,.int .u8 0] 61 ?_;intro ac hg a5 hbox hb;have O:=aK (hbox);have Z:=hbS HB hg;have Y:=hbS HB hg;replace HB:=hbB HB hb;clear hb hbox hg;obtain⟨aj,ak,ap,aq⟩:=cell2 O))
    go_ret
    exact⟨rfE,hbA HB.out⟩
   rw[if_neg ab]at H
   have c12b0:(((rd_T61 l0 D).f1)==0)=false:=beq_eq_false_iff_ne.mpr ab;have c12b1:(((rd_T61 l0 D).f1)!=0)=true:=bne_iff_ne.mpr ab;have H':=aK H;clear H;have J:0<=(D:Int):=of_decide_eq_true asE;have L:D<(l0.length:Int):=of_decide_eq_true asE;obtain⟨aa,U,G,I⟩:=at_T61 ae.out D J L
   cases U
   replace G:=(HB.out.cell (World.block_lt_of_cell? w _ G)).trans G;replace I:=(HB.out.cell (World.block_lt_of_cell? w _ I)).trans I;replace J:=eq_true J;replace L:=eq_true L
   go_wp2_with (first|((with_reducible refine gD 7 rfl ?_);refine bE 7 #[.int .i64 0,.int .u8 0] 61 ?_;intro ac hg a6 hbox hb;have O:=aK (hbox);have Z:=hbS HB hg;have Y:=hbS HB hg;replace HB:=hbB HB hb;clear hb hbox hg;obtain⟨al,am,ar,au⟩:=cell2 O))
   go_roundg k1
   case measure=>have:=af.out;omega
   case rel=>exact⟨((rd_T61 l0 D).f0),(wrap64 (D+1)),rsE,rsE,H',⟨by have:=af.out;omega⟩,⟨hbA HB.out⟩⟩
def idxP(p:Int->Bool):List Int->Int->Int
 | [],_=> -1
 |x::r,i=>if p x=true then i else idxP p r (i+1)
theorem idxP_any(p:Int->Bool): ∀(l:List Int) (i:Int),0<=i->decide (idxP p l i>=0)=l.any p
 | [],i,_=>rfl
 |x::r,i,hi=>by
  unfold idxP
  cases h:p x
  ·rw[if_neg zac,List.any_cons,h,Bool.false_or];exact idxP_any p r (i+1) zaa
  ·rw[if_pos rfl,List.any_cons,h,Bool.true_or];exact decide_eq_true hi
theorem idxf.calls(l:List Int)(A:Option Addr)(c:Nat)(p:Int->Bool)(tf:Nat)(caps:Array Value)(w:World)(hr:Kd.C (Kd.int .i64) w A l.length l)(hlen:l.length<=140737488355328)
 (het: ∀args W,(callFunc tf args).run Try.prog W= .ok (.enter tf args) W)
 (hp: ∀x∈l,∀W,Below w.heap.size w W->Calls Try.prog tf (#[.int .i64 x]++caps) W fun e W'=>e= .returned (.bool (p x))/\Below W.heap.size W W'):
 Calls Try.prog 50 #[.slice A l.length c,.func (.func tf) #[] caps] w fun e w'=>e= .returned (.int .i64 (idxP p l 0))/\Below w.heap.size w w':=by
 have HC:=aK hr;have HP:=aK hp;clear hr hp;obtain⟨len,hl⟩: ∃n,n=l.length:=⟨_,rfl⟩
 rw[<-hl]at hlen⊢
 have HL:=aK hl;clear hl
 go_enter Try.func50,Try.ntmps50
 go_wp2
 go_loopw [8] (fun v wr=> ∃i:Nat,i<=len/\v= .int .i64 i/\Aside0 (idxP p (l.drop i) i=idxP p l 0)/\Aside0 (Below w.heap.size w wr)) (fun v _=>len-(intOf v).toNat)
 case atStart=>exact⟨0,by omega,rfl,⟨rfl⟩,⟨Below.refl _ _⟩⟩
 case round=>
  obtain⟨i,hi,rfl,HI,HB⟩:=hrel;by_cases hlt:i<len
  ·obtain⟨ad,eA,G⟩:=Kd.at_int HC.out (i:Int) zaa zbg;subst eA;have I:=pw_cell_below HB.out G;have hil:i<l.length:=by have:=HL.out;omega
   have hx:wr.cell? (ad.add i)=some (.int .i64 l[i]):=by
    rw[show l[i] =rd l (i:Int)from by simp[rd,hil]];simpa using I
   have HM:=aK (List.getElem_mem hil);have D:=aK (show(if p l[i] =true then(i:Int)else idxP p (l.drop (i+1)) ((i:Int)+1))=idxP p l 0 by
    have:=HI.out;rw[List.drop_eq_getElem_cons hil]at this
    exact this)
   obtain⟨x,ex⟩: ∃x:Int,x=l[i]:=⟨_,rfl⟩
   rw[<-ex]at hx HM D
   clear ex G I HI hil;have HCall:=aK (fun W hW=>HP.out x HM.out W hW)
   cases hpx:p x
   ·rw[hpx]at HCall D
    go_wp2;refine(HCall.out _ HB.out).mono ?_;rintro e w' ⟨rfl,hb⟩;replace HB:=aK (HB.out.trans (hb.mono HB.out.size));go_wp2
    go_roundw
    case rel=>
     refine⟨i+1,by omega,by go_num,⟨?_⟩,HB⟩;have:=D.out;rw[if_neg zac]at this
     simpa using this
    case measure=>
     simp[intOf];omega
   ·rw[hpx]at HCall D
    go_wp2;refine(HCall.out _ HB.out).mono ?_;rintro e w' ⟨rfl,hb⟩;replace HB:=aK (HB.out.trans (hb.mono HB.out.size));go_wp2
    go_ret
    have:=D.out;rw[if_pos trivial]at this
    exact⟨by rw[<-this];rfl,HB.out⟩
  ·go_wp2
   go_ret
   have:=HI.out;rw[List.drop_eq_nil_of_le zbg]at this
   exact⟨by rw[<-this];rfl,HB.out⟩
theorem contf.calls(l:List Int)(A:Option Addr)(c:Nat)(p:Int->Bool)(tf:Nat)(caps:Array Value)(w:World)(hr:Kd.C (Kd.int .i64) w A l.length l)(hlen:l.length<=140737488355328)
 (het: ∀args W,(callFunc tf args).run Try.prog W= .ok (.enter tf args) W)
 (hp: ∀x∈l,∀W,Below w.heap.size w W->Calls Try.prog tf (#[.int .i64 x]++caps) W fun e W'=>e= .returned (.bool (p x))/\Below W.heap.size W W'):
 Calls Try.prog 36 #[.slice A l.length c,.func (.func tf) #[] caps] w fun e w'=>e= .returned (.bool (l.any p))/\Below w.heap.size w w':=by
 have HA:=aK (idxP_any p l 0 (Int.le_refl 0));have HI:=aK (idxf.calls l A c p tf caps w hr hlen het hp);clear hp hr
 go_enter Try.func36,Try.ntmps36
 go_wp2_with (go_at_call 50;refine HI.out.mono ?_;rintro e w' ⟨rfl,hb⟩)
 go_ret
 exact⟨by rw[<-HA.out];rfl,hb⟩
def slices_ContainsFunc_int_int.f(l:List Int)(n:Int):Option Bool:=if l.length<=140737488355328 then some (l.any fun v=>decide (v<0)||decide (n<=v))else none
theorem flow_fn1.calls(x:Int)(g:Nat)(A0 A1:Option Addr)(n0 c0 n1 c1:Nat)(v2:Value)(w:World)(hb:w.heap[g]? =some (.cells #[.slice A0 n0 c0,.slice A1 n1 c1,v2] 25 (0,0))):
 Calls Try.prog 37 #[.int .i64 x,.pointer (some ⟨g,0,none⟩)] w fun e w'=>e= .returned (.bool (decide (x<0)||decide (wrap64 ((n0:Int)+(n1:Int))<=x)))/\Below w.heap.size w w':=by
 have hu:=Try.underlying25;have BK:=aK hb;obtain⟨hcz_0,hcz_1,hcz_2,hfz_0,hfz_1,hfz_2⟩:=cell3 BK;clear hb;by_cases h0:x<0
 ·have c0:decide (x<0)=true:=decide_eq_true h0;rw[c0,Bool.true_or];clear h0
  go_enter Try.func37,Try.ntmps37
  go_wp2
  go_ret
  exact⟨rfl,Below.refl _ _⟩
 ·have c0:decide (x<0)=false:=decide_eq_false h0;rw[c0,Bool.false_or];clear h0
  go_enter Try.func37,Try.ntmps37
  go_wp2
  go_ret
  exact⟨rfl,Below.refl _ _⟩
theorem slices_ContainsFunc_int_int.calls(g:Nat)(A0 A1:Option Addr)(n0 c0 n1 c1:Nat)(v2:Value)(A:Option Addr)(c:Nat)(l:List Int)(r:Bool)(w:World)(hb:w.heap[g]? =some (.cells #[.slice A0 n0 c0,.slice A1 n1 c1,v2] 25 (0,0)))(hr:Kd.C (Kd.int .i64) w A l.length l)(hc:l.length<=c)
 (h:slices_ContainsFunc_int_int.f l (wrap64 ((n0:Int)+(n1:Int)))=some r):
 Calls Try.prog 36 #[.slice A l.length c,.func (.func 37) #[] #[.pointer (some ⟨g,0,none⟩)]] w fun e w'=>e= .returned (.bool r)/\Below w.heap.size w w':=by
 unfold slices_ContainsFunc_int_int.f at h;by_cases hl:l.length<=140737488355328
 ·rw[if_pos hl]at h
  obtain rfl:=Option.some.inj h;have hlt:g<w.heap.size:=(Array.getElem?_eq_some_iff.1 hb).1
  exact contf.calls l A c (fun v=>decide (v<0)||decide (wrap64 ((n0:Int)+(n1:Int))<=v)) 37 #[.pointer (some ⟨g,0,none⟩)] w hr hl (enters_of Try.func37 zad rfl)
   (fun x _ W hW=>flow_fn1.calls x g A0 A1 n0 c0 n1 c1 v2 W ((hW.block _ hlt).trans hb))
 ·rw[if_neg hl]at h
  cases h
mutual
def flow_May.l0:Nat->Int->List Int->Int->Int->List Int->List (List (S61))->List Int->Option (Bool)
 |0,_,_,_,_,_,_,_=>none
 |k+1,x3,x9,L,J,I,D,G=>if J<L then(if 0<=J then(if J<(x9.length:Int)then(if(rd x9 J)<=x3 then(some false)else(if(rd x9 J)>=64 then(some false)else(flow_May.l0 k (rd x9 J) x9 L (wrap64 (J+1)) I D G)))else(none))else(none))else(if(D.length:Int)>4096 then(flow_May.j1 k L true I D G)else(flow_May.j1 k L (decide ((G.length:Int)>64)) I D G))
def flow_May.j1:Nat->Int->Bool->List Int->List (List (S61))->List Int->Option (Bool)
 |0,_,_,_,_,_=>none
 |k+1,J,L,G,D,I=>if L=true then(some false)else(flow_May.l1 k J D (D.length:Int) 0 G D I)
def flow_May.l1:Nat->Int->List (List (S61))->Int->Int->List Int->List (List (S61))->List Int->Option (Bool)
 |0,_,_,_,_,_,_,_=>none
 |k+1,Y,L,O,I,D,J,G=>if I<O then(if 0<=I then(if I<(L.length:Int)then((flow_terms.f k (rd_L5 L I) (wrap64 ((D.length:Int)+I))).bind fun U=>(if U=true then(flow_May.l1 k Y L O (wrap64 (I+1)) D J G)else(some false)))else(none))else(none))else((slices_ContainsFunc_int_int.f G (wrap64 (Y+O))).bind fun X=>(some (!X)))
end
def flow_May.f(k:Nat)(D:List Int)(G:List (List (S61)))(I:List Int):Option (Bool):=flow_May.l0 k (-1) D (D.length:Int) 0 D G I
theorem flow_May.mono_l: ∀k,(∀y0 y1 y2 y3 y4 y5 y6,LeO (flow_May.l0 k y0 y1 y2 y3 y4 y5 y6) (flow_May.l0 (k+1) y0 y1 y2 y3 y4 y5 y6))/\(∀y0 y1 y2 y3 y4,LeO (flow_May.j1 k y0 y1 y2 y3 y4) (flow_May.j1 (k+1) y0 y1 y2 y3 y4))/\(∀y0 y1 y2 y3 y4 y5 y6,LeO (flow_May.l1 k y0 y1 y2 y3 y4 y5 y6) (flow_May.l1 (k+1) y0 y1 y2 y3 y4 y5 y6))
 |0=>⟨fun _ _ _ _ _ _ _ r h=>by simp[flow_May.l0]at h,fun _ _ _ _ _ r h=>by simp[flow_May.j1]at h,fun _ _ _ _ _ _ _ r h=>by simp[flow_May.l1]at h⟩
 |k+1=>by
  obtain⟨D,G,I⟩:=flow_May.mono_l k;refine⟨?_,?_,?_⟩;all_goals(intros;first|unfold flow_May.l0|unfold flow_May.j1|unfold flow_May.l1)
  all_goals repeat' first|(with_reducible exact D _ _ _ _ _ _ _)|(with_reducible exact G _ _ _ _ _)|(with_reducible exact I _ _ _ _ _ _ _)|(with_reducible exact flow_terms.mono _ _ _)|(with_reducible exact LeO.refl _)|(with_reducible exact LeO.none _)|(with_reducible refine LeO.ite ?_ ?_)|(with_reducible refine LeO.bind ?_ (fun _=>?_))|exact D _ _ _ _ _ _ _|exact G _ _ _ _ _|exact I _ _ _ _ _ _ _|exact flow_terms.mono _ _ _|exact LeO.none _|refine LeO.ite ?_ ?_|refine LeO.bind ?_ (fun _=>?_)
theorem flow_May.mono: ∀a0 a1 a2 k,LeO (flow_May.f k a0 a1 a2) (flow_May.f (k+1) a0 a1 a2):=by
 intro a0 a1 a2 k;obtain⟨D,G,I⟩:=flow_May.mono_l k;unfold flow_May.f
 with_reducible repeat' first|exact D _ _ _ _ _ _ _|exact G _ _ _ _ _|exact I _ _ _ _ _ _ _|exact flow_terms.mono _ _ _|exact LeO.refl _|exact LeO.none _|refine LeO.ite ?_ ?_|refine LeO.bind ?_ (fun _=>?_)
theorem flow_May.calls(k:Nat)(ah:Option Addr)(ak:Nat)(D:List Int)(ai:Option Addr)(al:Nat)(J:List (List (S61)))(aj:Option Addr)(am:Nat)(X:List Int)(r:Bool)(w:World)(bu:Kd.C (Kd.int .i64) w ah D.length D)(bk:D.length<=ak)(bv:Kd.C (Kd.slice 61 k61) w ai J.length J)(bl:J.length<=al)(bw:Kd.C (Kd.int .i64) w aj X.length X)(bm:X.length<=am)(h:flow_May.f k D J X=some r):
 Calls Try.prog 23 #[.agg #[.slice ah D.length ak,.slice ai J.length al,.slice aj X.length am]] w fun e w'=>e= .returned (.bool r)/\Below w.heap.size w w':=by
 have df:=Try.underlying25;have bd:=aK bu;have c9:=aK bk;clear bu bk;have bg:=aK bv;have da:=aK bl;clear bv bl;have b3:=aK bw;have b1:=aK bm;clear bw bm;have HB:=aK (Below.refl w.heap.size w);have H:(flow_May.l0 k (-1) D (D.length:Int) 0 D J X)=some r:=h;clear h;have H':=aK H;clear H
 go_enter Try.func23,Try.ntmps23
 go_wp2_with (first|((with_reducible refine gD 1 rfl ?_);(try(refine gate_guard zae ?_;dsimp only));refine bE 1 #[.slice ah D.length ak,.slice ai J.length al,.slice aj X.length am] 25 ?_;intro aq hg w2 hbox hb;have L:=aK (hbox);have c3:=hbS HB hg;have cz:=hbS HB hg;replace HB:=hbB HB hb;clear hb hbox hg;obtain⟨ar,au,av,aw,ax,ay⟩:=cell3 L))
 go_loopg [3,11] k (fun kq v3 dc w'=> ∃(an:Int) (G:Int),v3= .int .i64 an/\dc= .int .i64 G/\Aside0 (flow_May.l0 kq an D (D.length:Int) G D J X=some r)/\Aside0 (kq<=k)/\Aside0 (w'.heap[aq]? =some (.cells #[(.slice ah D.length ak),(.slice ai J.length al),(.slice aj X.length am)] 25 (0,0)))/\Aside0 (Below w.heap.size w w'))
 case atStart=>exact⟨((-1)),(0),rsE,rsE,H',⟨Nat.le_refl _⟩,⟨bkA L.out⟩,⟨hbA HB.out⟩⟩
 case round=>
  clear H'
  (try clear c2);(try clear p2);(try clear ar au av aw ax ay)
  obtain⟨an,G,rfl,rfl,HA,be,L,HB⟩:=hrel
  cases gk with
  |zero=>exact absurd HA.out (by simp[flow_May.l0])
  |succ k1=>
   have H:=HA.out;clear HA;simp only[flow_May.l0]at H;by_cases c4:G<(D.length:Int)
   ·rw[if_pos c4]at H
    have c4b0:decide (G<(D.length:Int))=true:=decide_eq_true c4;clear c4;by_cases c5:0<=G
    case neg=>rw[if_neg c5]at H;exact absurd H zac
    rw[if_pos c5]at H
    have c5b0:decide (0<=G)=true:=decide_eq_true c5;clear c5;by_cases c6:G<(D.length:Int)
    case neg=>rw[if_neg c6]at H;exact absurd H zac
    rw[if_pos c6]at H
    have c6b0:decide (G<(D.length:Int))=true:=decide_eq_true c6;clear c6;by_cases c7:(rd D G)<=an
    ·rw[if_pos c7]at H
     have c7b0:decide ((rd D G)<=an)=true:=decide_eq_true c7;clear c7;obtain rfl:=Option.some.inj H;have Y:0<=(G:Int):=of_decide_eq_true asE;have Z:G<(D.length:Int):=of_decide_eq_true asE;obtain⟨bh,a0,O⟩:=Kd.at_int bd.out G Y Z
     cases a0
     replace O:=(HB.out.cell (World.block_lt_of_cell? w _ O)).trans O;replace Y:=eq_true Y;replace Z:=eq_true Z;go_wp2
     go_ret
     exact⟨rfE,hbA HB.out⟩
    rw[if_neg c7]at H
    have c7b0:decide ((rd D G)<=an)=false:=decide_eq_false c7;clear c7;by_cases c8:(rd D G)>=64
    ·rw[if_pos c8]at H
     have c8b0:decide (64<=(rd D G))=true:=decide_eq_true c8;clear c8;obtain rfl:=Option.some.inj H;have Y:0<=(G:Int):=of_decide_eq_true asE;have Z:G<(D.length:Int):=of_decide_eq_true asE;obtain⟨bh,a0,O⟩:=Kd.at_int bd.out G Y Z
     cases a0
     replace O:=(HB.out.cell (World.block_lt_of_cell? w _ O)).trans O;replace Y:=eq_true Y;replace Z:=eq_true Z;go_wp2
     go_ret
     exact⟨rfE,hbA HB.out⟩
    rw[if_neg c8]at H
    have c8b0:decide (64<=(rd D G))=false:=decide_eq_false c8;clear c8;have H':=aK H;clear H;have Y:0<=(G:Int):=of_decide_eq_true asE;have Z:G<(D.length:Int):=of_decide_eq_true asE;obtain⟨bh,a0,O⟩:=Kd.at_int bd.out G Y Z
    cases a0
    replace O:=(HB.out.cell (World.block_lt_of_cell? w _ O)).trans O;replace Y:=eq_true Y;replace Z:=eq_true Z;go_wp2
    go_roundg k1
    case measure=>have:=be.out;omega
    case rel=>exact⟨(rd D G),(wrap64 (G+1)),rsE,rsE,H',⟨by have:=be.out;omega⟩,⟨bkA L.out⟩,⟨hbA HB.out⟩⟩
   rw[if_neg c4]at H
   have c4b0:decide (G<(D.length:Int))=false:=decide_eq_false c4;clear c4;have b2:=aK H;clear H
   go_upto_region 9 with(fail)
   go_cut [33] (fun dd wc=> ∃(kq:Nat) (az:Bool),dd= .bool az/\Aside0 (flow_May.j1 kq (D.length:Int) az D J X=some r)/\Aside0 (kq<=k1)/\Aside0 (wc.heap[aq]? =some (.cells #[(.slice ah D.length ak),(.slice ai J.length al),(.slice aj X.length am)] 25 (0,0)))/\Aside0 (Below w.heap.size w wc))
   case first=>
    have H:=b2.out;clear b2;by_cases c10:(J.length:Int)>4096
    case neg=>
     rw[if_neg c10]at H
     have c10b0:decide (4096<(J.length:Int))=false:=decide_eq_false c10;have c10b1:decide (4096<J.length)=false:=decide_eq_false zaa;clear c10
     (first|rw[c10b0] |(simp only[i64_w,i32_w];rw[c10b0])|skip)
     have H':=aK H;clear H;obtain⟨a4,a5,a6,ba,bb,bc⟩:=cell3 L;go_wp2
     go_meet
     case rel=>exact⟨_,(decide ((X.length:Int)>64)),rsE,H',⟨by have:=be.out;first|omega|exact Nat.le_refl _⟩,⟨bkA L.out⟩,⟨hbA HB.out⟩⟩
    rw[if_pos c10]at H
    have c10b0:decide (4096<(J.length:Int))=true:=decide_eq_true c10;have c10b1:decide (4096<J.length)=true:=decide_eq_true zaa;clear c10
    (first|rw[c10b0] |(simp only[i64_w,i32_w];rw[c10b0])|skip)
    have H':=aK H;clear H;obtain⟨a1,a2,a3,a7,a8,a9⟩:=cell3 L;go_wp2
    go_meet
    case rel=>exact⟨_,(true),rsE,H',⟨by have:=be.out;first|omega|exact Nat.le_refl _⟩,⟨bkA L.out⟩,⟨hbA HB.out⟩⟩
   case rest=>
    clear b2
    (try clear c1);(try clear p1);(try clear q1);(try clear db);(try clear c2);(try clear p2 p2);(try clear c4);(try clear c4b0);(try clear c5);(try clear c5b0);(try clear c6);(try clear c6b0);(try clear p6);(try clear c7);(try clear c7b0);(try clear c8);(try clear c8b0);(try clear c10);(try clear c10b0);(try clear c10b1);(try clear cu);(try clear cv);(try clear cr);(try clear a1 a2 a3 a7 a8 a9);(try clear a4 a5 a6 ba bb bc);(try clear ar au av aw ax ay);(try clear O);(try clear Y);(try clear Z)
    obtain⟨kq,az,rfl,HA,b6,L,HB⟩:=hcut
    cases kq with
    |zero=>exact absurd HA.out (by simp[flow_May.j1])
    |succ ct=>
     have H:=HA.out;clear HA;simp only[flow_May.j1]at H;by_cases bi:az=true
     ·subst bi;rw[if_pos rfl]at H
      obtain rfl:=Option.some.inj H;go_wp2
      go_ret
      exact⟨rfE,hbA HB.out⟩
     replace bi:=Bool.eq_false_iff.mpr bi;subst bi;rw[if_neg nofT]at H
     have H':=aK H;clear H;obtain⟨bn,bo,bp,bq,br,bs⟩:=cell3 L;go_wp2
     go_loopg [37] ct (fun kq de w'=> ∃(I:Int),de= .int .i64 I/\Aside0 (flow_May.l1 kq (D.length:Int) J (J.length:Int) I D J X=some r)/\Aside0 (kq<=ct)/\Aside0 (w'.heap[aq]? =some (.cells #[(.slice ah D.length ak),(.slice ai J.length al),(.slice aj X.length am)] 25 (0,0)))/\Aside0 (Below w.heap.size w w'))
     case atStart=>exact⟨(0),rsE,H',⟨Nat.le_refl _⟩,⟨bkA L.out⟩,⟨hbA HB.out⟩⟩
     case round=>
      clear H'
      (try clear c1);(try clear p1 p1);(try clear q1 q1);(try clear db);(try clear c2);(try clear p2 p2);(try clear c4);(try clear c4b0);(try clear c5);(try clear c5b0);(try clear c6);(try clear c6b0);(try clear p6 p6);(try clear c7);(try clear c7b0);(try clear c8);(try clear c8b0);(try clear c10);(try clear c10b0);(try clear c10b1);(try clear cu cu);(try clear cv cv);(try clear cr);(try clear bi);(try clear a1 a2 a3 a7 a8 a9);(try clear a4 a5 a6 ba bb bc);(try clear bn bo bp bq br bs);(try clear ar au av aw ax ay);(try clear O);(try clear Y);(try clear Z)
      obtain⟨I,rfl,HA,b7,L,HB⟩:=hrel
      cases gk with
      |zero=>exact absurd HA.out (by simp[flow_May.l1])
      |succ k3=>
       have H:=HA.out;clear HA;simp only[flow_May.l1]at H;by_cases bf:I<(J.length:Int)
       case neg=>
        rw[if_neg bf]at H
        have c15b0:decide (I<(J.length:Int))=false:=decide_eq_false bf;clear bf;obtain⟨cx,cy,H⟩:=bindO H
        (try dsimp only at H)
        obtain rfl:=Option.some.inj H;obtain⟨cf,cg,ch,co,cp,cq⟩:=cell3 L
        go_wp2_with (go_at_call 36;refine(slices_ContainsFunc_int_int.calls aq _ _ _ _ _ _ _ _ _ X cx _ (bkA L.out) (kcB b3 HB) b1.out cy.out).mono ?_;rintro e di ⟨rfl,hb⟩;replace HB:=hbB HB hb)
        go_ret
        exact⟨rfE,hbA HB.out⟩
       rw[if_pos bf]at H
       have c15b0:decide (I<(J.length:Int))=true:=decide_eq_true bf;clear bf;by_cases bx:0<=I
       case neg=>rw[if_neg bx]at H;exact absurd H zac
       rw[if_pos bx]at H
       have c16b0:decide (0<=I)=true:=decide_eq_true bx;clear bx;by_cases bz:I<(J.length:Int)
       case neg=>rw[if_neg bz]at H;exact absurd H zac
       rw[if_pos bz]at H
       have c17b0:decide (I<(J.length:Int))=true:=decide_eq_true bz;clear bz;obtain⟨cw,b5,H⟩:=bindO H
       (try dsimp only at H)
       by_cases b0:cw=true
       case neg=>
        replace b0:=Bool.eq_false_iff.mpr b0;subst b0;rw[if_neg nofT]at H
        obtain rfl:=Option.some.inj H;have af:0<=(I:Int):=of_decide_eq_true asE;have ag:I<(J.length:Int):=of_decide_eq_true asE;obtain⟨b4,ao,ap,bj,U,ab,aa⟩:=at_L5 bg.out I af ag
        cases bj
        replace U:=(HB.out.cell (World.block_lt_of_cell? w _ U)).trans U;have ae:=aK aa;have ac:=aK ab;clear aa ab;replace af:=eq_true af;replace ag:=eq_true ag;obtain⟨cb,cd,ce,cl,cm,cn⟩:=cell3 L
        go_wp2_with (first|((with_reducible refine gC 35 rfl ?_);refine cG (some 48) Try.func35 #[.slice ao (rd_L5 J I).length ap,.int .i64 (wrap64 ((D.length:Int)+I))] ?_;(with_reducible refine(flow_terms.calls k3 _ _ (rd_L5 J I) (wrap64 ((D.length:Int)+I)) false _ ?side1 ?side2 b5.out).mono ?_);(case side1=>exact kcB ae HB);(case side2=>exact ac.out);rintro e dh ⟨rfl,hb⟩;refine⟨_,rfl,?_⟩;replace L:=bkB L hb;replace HB:=hbB HB hb;(try clear hb)))
        go_ret
        exact⟨rfE,hbA HB.out⟩
       subst b0;rw[if_pos rfl]at H
       have H':=aK H;clear H;have af:0<=(I:Int):=of_decide_eq_true asE;have ag:I<(J.length:Int):=of_decide_eq_true asE;obtain⟨b4,ao,ap,bj,U,ab,aa⟩:=at_L5 bg.out I af ag
       cases bj
       replace U:=(HB.out.cell (World.block_lt_of_cell? w _ U)).trans U;have ae:=aK aa;have ac:=aK ab;clear aa ab;replace af:=eq_true af;replace ag:=eq_true ag;obtain⟨b8,b9,ca,ci,cj,ck⟩:=cell3 L
       go_wp2_with (first|((with_reducible refine gC 35 rfl ?_);refine cG (some 48) Try.func35 #[.slice ao (rd_L5 J I).length ap,.int .i64 (wrap64 ((D.length:Int)+I))] ?_;(with_reducible refine(flow_terms.calls k3 _ _ (rd_L5 J I) (wrap64 ((D.length:Int)+I)) true _ ?side1 ?side2 b5.out).mono ?_);(case side1=>exact kcB ae HB);(case side2=>exact ac.out);rintro e dg ⟨rfl,hb⟩;refine⟨_,rfl,?_⟩;replace L:=bkB L hb;replace HB:=hbB HB hb;(try clear hb)))
       go_roundg k3
       case measure=>have:=be.out;have:=b6.out;have:=b7.out;omega
       case rel=>exact⟨(wrap64 (I+1)),rsE,H',⟨by have:=be.out;have:=b6.out;have:=b7.out;omega⟩,⟨bkA L.out⟩,⟨hbA HB.out⟩⟩
def field_double.f(a0:Int):Option (Int):=if(Go.bits .and .u8 a0 128)=0 then(some ((a0*2) % 256))else(some (Go.bits .xor .u8 ((a0*2) % 256) 29))
theorem field_double.calls(a0:Int)(r:Int)(w:World)(h:field_double.f a0=some r):
 Calls Try.prog 52 #[.int .u8 a0] w fun e w'=>e= .returned (.int .u8 r)/\Drawn0 w w':=by
 have H:(if(Go.bits .and .u8 a0 128)=0 then(some ((a0*2) % 256))else(some (Go.bits .xor .u8 ((a0*2) % 256) 29)))=some r:=h;clear h;by_cases c2:(Go.bits .and .u8 a0 128)=0
 ·rw[if_pos c2]at H
  have c2b0:((Go.bits .and .u8 a0 128)==0)=true:=beq_iff_eq.mpr c2;have c2b1:((Go.bits .and .u8 a0 128)!=0)=false:=bne_eq_false_iff_eq.mpr c2;clear c2;obtain rfl:=Option.some.inj H
  go_enter Try.func52,Try.ntmps52
  go_wp2
  go_ret
  exact zD
 ·rw[if_neg c2]at H
  have c2b0:((Go.bits .and .u8 a0 128)==0)=false:=beq_eq_false_iff_ne.mpr c2;have c2b1:((Go.bits .and .u8 a0 128)!=0)=true:=bne_iff_ne.mpr c2;obtain rfl:=Option.some.inj H
  go_enter Try.func52,Try.ntmps52
  go_wp2
  go_ret
  exact zD
def field_Mul.l0:Nat->Int->Int->Int->Option (Int)
 |0,_,_,_=>none
 |k+1,x0,x1,x5=>if x1=0 then(some x5)else(if(Go.bits .and .u8 x1 1)=0 then((field_double.f x0).bind fun D=>(field_Mul.l0 k D (x1 / 2) x5))else((field_double.f x0).bind fun G=>(field_Mul.l0 k G (x1 / 2) (Go.bits .xor .u8 x5 x0))))
def field_Mul.f(k:Nat)(a0:Int)(a1:Int):Option (Int):=field_Mul.l0 k a0 a1 0
theorem field_Mul.mono_l: ∀k,(∀y0 y1 y2,LeO (field_Mul.l0 k y0 y1 y2) (field_Mul.l0 (k+1) y0 y1 y2))
 |0=>fun _ _ _ r h=>by simp[field_Mul.l0]at h
 |k+1=>by
  have D:=field_Mul.mono_l k
  ·intro y0 y1 y2;unfold field_Mul.l0
   with_reducible repeat' first|exact D _ _ _|exact LeO.refl _|exact LeO.none _|refine LeO.ite ?_ ?_|refine LeO.bind ?_ (fun _=>?_)
theorem field_Mul.mono: ∀a0 a1 k,LeO (field_Mul.f k a0 a1) (field_Mul.f (k+1) a0 a1):=by
 intro a0 a1 k;have D:=field_Mul.mono_l k;unfold field_Mul.f
 with_reducible repeat' first|exact D _ _ _|exact LeO.refl _|exact LeO.none _|refine LeO.ite ?_ ?_|refine LeO.bind ?_ (fun _=>?_)
theorem field_Mul.calls(k:Nat)(a0:Int)(a1:Int)(r:Int)(w:World)(h:field_Mul.f k a0 a1=some r):
 Calls Try.prog 39 #[.int .u8 a0,.int .u8 a1] w fun e w'=>e= .returned (.int .u8 r)/\Drawn0 w w':=by
 have H:(field_Mul.l0 k a0 a1 0)=some r:=h;clear h;have H':=aK H;clear H
 go_enter Try.func39,Try.ntmps39
 go_wp2
 go_loopg [0,1,5] k (fun kq v0 v1 v5 w'=> ∃(G:Int) (D:Int) (I:Int),v0= .int .u8 G/\v1= .int .u8 D/\v5= .int .u8 I/\Aside0 (field_Mul.l0 kq G D I=some r)/\Aside0 (kq<=k)/\Drawn0 w w')
 case atStart=>exact⟨(a0),(a1),(0),rsE,rsE,rsE,H',⟨Nat.le_refl _⟩,by repeat(first|exact Drawn0.refl _|apply Drawn0.step)⟩
 case round=>
  clear H'
  (try clear p2)
  obtain⟨G,D,I,rfl,rfl,rfl,HA,J,⟨m1,rfl⟩⟩:=hrel
  cases gk with
  |zero=>exact absurd HA.out (by simp[field_Mul.l0])
  |succ k1=>
   have H:=HA.out;clear HA;simp only[field_Mul.l0]at H;by_cases c3:D=0
   ·rw[if_pos c3]at H
    have c3b0:(D==0)=true:=beq_iff_eq.mpr c3;have c3b1:(D !=0)=false:=bne_eq_false_iff_eq.mpr c3;clear c3;obtain rfl:=Option.some.inj H;go_wp2
    go_ret
    exact zD
   rw[if_neg c3]at H
   have c3b0:(D==0)=false:=beq_eq_false_iff_ne.mpr c3;have c3b1:(D !=0)=true:=bne_iff_ne.mpr c3;by_cases c4:(Go.bits .and .u8 D 1)=0
   case neg=>
    rw[if_neg c4]at H
    have c4b0:((Go.bits .and .u8 D 1)==0)=false:=beq_eq_false_iff_ne.mpr c4;have c4b1:((Go.bits .and .u8 D 1)!=0)=true:=bne_iff_ne.mpr c4;obtain⟨O,A6,H⟩:=bindO H
    (try dsimp only at H)
    have H':=aK H;clear H
    go_wp2_with (first|((with_reducible refine gC 52 rfl ?_);refine cG (some 17) Try.func52 #[.int .u8 G] ?_;(with_reducible refine(field_double.calls G O _ A6.out).mono ?_);rintro e w' ⟨rfl,⟨nd,rfl⟩⟩;refine⟨_,rfl,?_⟩))
    go_roundg k1
    case measure=>have:=J.out;omega
    case rel=>exact⟨(O),(D / 2),(Go.bits .xor .u8 I G),rsE,rsE,rsE,H',⟨by have:=J.out;omega⟩,by repeat(first|exact Drawn0.refl _|apply Drawn0.step)⟩
   rw[if_pos c4]at H
   have c4b0:((Go.bits .and .u8 D 1)==0)=true:=beq_iff_eq.mpr c4;have c4b1:((Go.bits .and .u8 D 1)!=0)=false:=bne_eq_false_iff_eq.mpr c4;clear c4;obtain⟨L,A5,H⟩:=bindO H
   (try dsimp only at H)
   have H':=aK H;clear H
   go_wp2_with (first|((with_reducible refine gC 52 rfl ?_);refine cG (some 17) Try.func52 #[.int .u8 G] ?_;(with_reducible refine(field_double.calls G L _ A5.out).mono ?_);rintro e w' ⟨rfl,⟨nd,rfl⟩⟩;refine⟨_,rfl,?_⟩))
   go_roundg k1
   case measure=>have:=J.out;omega
   case rel=>exact⟨(L),(D / 2),(I),rsE,rsE,rsE,H',⟨by have:=J.out;omega⟩,by repeat(first|exact Drawn0.refl _|apply Drawn0.step)⟩
def field_bounded.f(a0:Int):Option (Int):=some (Int.tmod (wrap64 ((Int.tmod a0 255)+255)) 255)
theorem field_bounded.calls(a0:Int)(r:Int)(w:World)(h:field_bounded.f a0=some r):
 Calls Try.prog 59 #[.int .i64 a0] w fun e w'=>e= .returned (.int .i64 r)/\Drawn0 w w':=by
 have H:(some (Int.tmod (wrap64 ((Int.tmod a0 255)+255)) 255))=some r:=h;clear h;obtain rfl:=Option.some.inj H
 go_enter Try.func59,Try.ntmps59
 go_wp2
 go_ret
 exact zD
def field_build.dbl(a:Int):Int:=(field_double.f a).getD 0
def field_build.st:Nat->List Int×List Int×Int
 |0=>(List.replicate 510 0,List.replicate 256 0,1)
 |n+1=>let s:=field_build.st n;((s.1.set n s.2.2).set (n+255) s.2.2,s.2.1.set s.2.2.toNat n,field_build.dbl s.2.2)
def field_build.cells(e l:List Int):Array Value:=(nums .u8 e++nums .i64 l).toArray
def field_build.T:Array Value:=field_build.cells (field_build.st 255).1 (field_build.st 255).2.1
theorem field_build.st_length(n:Nat):(field_build.st n).1.length=510/\(field_build.st n).2.1.length=256:=by
 induction n with
 |zero=>exact⟨List.length_replicate,List.length_replicate⟩
 |succ n ih=>
  unfold field_build.st;simp only[List.length_set];exact ih
def field_build.elsB:Nat->Int->Bool
 |0,_=>true
 |n+1,a=>decide (0<=a)&&decide (a<256)&&field_build.elsB n (field_build.dbl a)
theorem field_build.els_ok:field_build.elsB 256 1=true:=by decide+kernel
theorem field_build.elsB_at: ∀(n:Nat) (k:Nat),n<k->field_build.elsB (k-n) (field_build.st n).2.2=true->0<=(field_build.st n).2.2/\(field_build.st n).2.2<256/\field_build.elsB (k-(n+1)) (field_build.st (n+1)).2.2=true:=by
 intro n k hk h;obtain⟨j,hj⟩: ∃j,k-n=j+1:=⟨k-n-1,by omega⟩
 rw[hj]at h
 simp only[field_build.elsB,Bool.and_eq_true,decide_eq_true_eq]at h;refine⟨h.1.1,h.1.2,?_⟩;rw[show k-(n+1)=j from by omega];exact h.2
theorem field_build.elsB_all: ∀n,n<=255->field_build.elsB (256-n) (field_build.st n).2.2=true
 |0,_=>field_build.els_ok
 |n+1,h=>(field_build.elsB_at n 256 zaa (field_build.elsB_all n zaa)).2.2
theorem field_build.el_range(n:Nat)(h:n<=255):0<=(field_build.st n).2.2/\(field_build.st n).2.2<256:=
 ⟨(field_build.elsB_at n 256 zaa (field_build.elsB_all n h)).1,(field_build.elsB_at n 256 zaa (field_build.elsB_all n h)).2.1⟩
theorem field_build.cells_size(e l:List Int):(field_build.cells e l).size=e.length+l.length:=by simp[field_build.cells,nums]
theorem field_build.cell_exp{e l:List Int}{j:Nat}(h:j<e.length):(field_build.cells e l)[j]? =some (.int .u8 (e.getD j 0)):=by
 simp[field_build.cells,nums,List.getElem?_append_left,h,List.getD_eq_getElem?_getD]
theorem field_build.cell_log{e l:List Int}{j:Nat}(h:j<l.length):(field_build.cells e l)[e.length+j]? =some (.int .i64 (l.getD j 0)):=by
 simp[field_build.cells,nums,h,List.getD_eq_getElem?_getD]
theorem field_build.set_exp{e l:List Int}{j:Nat}(h:j<e.length)(x:Int):(field_build.cells e l).setIfInBounds j (.int .u8 x)=field_build.cells (e.set j x) l:=by
 simp only[field_build.cells,nums,List.setIfInBounds_toArray];rw[List.set_append_left _ _ zaz,List.map_set]
theorem field_build.set_log{e l:List Int}{j:Nat}(x:Int):(field_build.cells e l).setIfInBounds (e.length+j) (.int .i64 x)=field_build.cells e (l.set j x):=by
 simp only[field_build.cells,nums,List.setIfInBounds_toArray];rw[List.set_append_right _ _ zac,List.map_set];simp
theorem field_build.one(e l:List Int):(field_build.cells e l).all (·.oneCell')=true:=by
 rw[Array.all_eq_true_iff_forall_mem];intro x hx;simp only[field_build.cells,nums,List.mem_toArray,List.mem_append,List.mem_map]at hx;rcases hx with⟨y,_,rfl⟩|⟨y,_,rfl⟩<;>rfl
def field_build.Z:Array Value:=field_build.cells (List.replicate 510 0) (List.replicate 256 0)
theorem field_build.zero(w:World):(zeroValue 101).run Try.prog w= .ok (.agg field_build.Z) w:=by kernel_rfl
theorem field_build.info:(Try.prog.info? 101).map (·.size)=some 766:=by kernel_rfl
theorem field_build.T_size:field_build.T.size=766:=by
 obtain⟨h1,h2⟩:=field_build.st_length 255;unfold field_build.T;rw[field_build.cells_size,h1,h2]
theorem field_build.infoT:(Try.prog.info? 101).map (·.size)=some field_build.T.size:=by rw[field_build.T_size];exact field_build.info
theorem field_build.oneT:field_build.T.all (·.oneCell')=true:=field_build.one _ _
theorem field_build.sizeZ:field_build.Z.size=field_build.T.size:=by
 unfold field_build.Z;rw[field_build.T_size,field_build.cells_size,List.length_replicate,List.length_replicate]
theorem field_build.dbl_call{a:Int} :field_double.f a=some (field_build.dbl a):=by
 unfold field_build.dbl field_double.f
 split<;>rfl
theorem field_build.calls(w:World):Calls Try.prog 58 #[] w fun e w'=>e= .returned (.agg field_build.T)/\Below w.heap.size w w':=by
 have hz:=field_build.zero
 go_enter Try.func58,Try.ntmps58
 go_wp2_with fail
 go_loopw [2,4] (fun v2 v4 wr=> ∃n:Nat,n<=255/\v4= .int .i64 n/\v2= .int .u8 (field_build.st n).2.2/\Aside0 (wr.heap[w.heap.size+1]? =some (.cells (field_build.cells (field_build.st n).1 (field_build.st n).2.1) 101 (0,0)))/\Aside0 (wr.heap[w.heap.size]? =some (.cells field_build.Z 101 (0,0)))/\Aside0 (Below w.heap.size w wr)) (fun _ v _=>255-(intOf v).toNat)
 case atStart=>
  refine⟨0,by omega,rfl,rfl,⟨?_⟩,⟨?_⟩,⟨below_alloc (below_alloc (Below.refl _ _) _) _⟩⟩
  ·exact(heap_alloc2_new w _ _).trans rfl
  ·exact heap_alloc2_old w _ _
 case round=>
  obtain⟨n,hn,rfl,rfl,HT,HR,HB⟩:=hrel;obtain⟨l1,l2⟩:=field_build.st_length n;by_cases hlt:n<255
  ·obtain⟨r0,r1⟩:=field_build.el_range n hn;obtain⟨a,ha⟩: ∃a,a=(field_build.st n).2.2:=⟨_,rfl⟩
   obtain⟨e,he⟩: ∃e,e=(field_build.st n).1:=⟨_,rfl⟩
   obtain⟨l,hl⟩: ∃l,l=(field_build.st n).2.1:=⟨_,rfl⟩
   rw[<-he,<-hl]at HT
   rw[<-ha]at r0 r1⊢
   rw[<-he]at l1
   rw[<-hl]at l2
   have HA:=aK ha;have HE:=aK he;have HL:=aK hl;clear ha he hl;have G:=(blk_cell HT.out n).trans (field_build.cell_exp zaa);have I:=(blk_cell HT.out (n+255)).trans (field_build.cell_exp zaa);have J:wr.cell? ⟨w.heap.size+1,510+a.toNat,none⟩=some (.int .i64 (l.getD a.toNat 0)):=by
    rw[blk_cell HT.out,<-l1];exact field_build.cell_log zaa
   have L:=blk_frozen HT.out n;have O:=blk_frozen HT.out (n+255);have U:=blk_frozen HT.out (510+a.toNat);have q1:(n+255=510+a.toNat)=False:=by simp;omega
   have q2:(n=510+a.toNat)=False:=by simp;omega
   have q3:(510+a.toNat=n+255)=False:=by simp;omega
   have q4:(510+a.toNat=n)=False:=by simp;omega
   have L1:=aK l1;have L2:=aK l2;clear l1 l2
   go_wp2_with (go_at_call 52;refine(field_double.calls a (field_build.dbl a) _ field_build.dbl_call).mono ?_;rintro e' w' ⟨rfl,⟨nd,rfl⟩⟩)
   go_roundw
   case rel=>
    refine⟨n+1,by omega,by go_num,?_,⟨?_⟩,⟨?_⟩,⟨?_⟩⟩
    ·rw[HA.out];rfl
    ·have s1:=blk_set HT.out n (.int .u8 a);have s2:=blk_set s1 (n+255) (.int .u8 a);have s3:=blk_set s2 (510+a.toNat) (.int .i64 n);refine(blk_drewN s3 _).trans ?_;rw[field_build.set_exp (by rw[L1.out];omega),field_build.set_exp (by rw[List.length_set,L1.out];omega),<-L1.out];have s4:=field_build.set_log (e:=(e.set n a).set (n+255) a) (l:=l) (j:=a.toNat) (n:Int);simp only[List.length_set]at s4;rw[s4,HA.out,HE.out,HL.out];rfl
    ·exact blk_drewN (blk_far (blk_far (blk_far HR.out zac _) zac _) zac _) _
    ·exact pw_below_drewN (((HB.out.setCell zac _).setCell zac _).setCell zac _) _
   case measure=>simp[intOf];omega
  ·have hT:wr.heap[w.heap.size+1]? =some (.cells field_build.T 101 (0,0)):=by
    have h:=HT.out;rw[show n=255 from by omega]at h
    exact h
   have D:=aK hT;clear hT HT l1 l2;generalize(field_build.st n).2.2=a
   go_wp2_with (first|(with_reducible refine wpList_load_row rfl 101 (.tmp 1) rfl (w.heap.size+1) rfl 101 field_build.T (0,0) _ D.out Try.underlying101 rfl field_build.infoT ?_)|(with_reducible refine wpList_store_row rfl 101 (.tmp 0) (.tmp 23) rfl w.heap.size field_build.T rfl rfl 101 _ HR.out field_build.infoT field_build.sizeZ field_build.oneT ?_))
   exact bodyPost_ret (v:= .agg field_build.T) (results_cell_row rfl _ _ w.heap.size 101 field_build.T (0,0) _ rfl (setRow_heap _ _ _ _ _ _ HR.out) Try.underlying101 rfl field_build.infoT) rfl ⟨rfl,below_setRow HB.out (Nat.le_refl _) _⟩
def field_build.logB(l:List Int):Bool:=l.all fun x=>decide (0<=x)&&decide (x<255)
theorem field_build.log_ok:field_build.logB (field_build.st 255).2.1=true:=by decide+kernel
def field_build.exp(i:Nat):Int:=(field_build.st 255).1.getD i 0
def field_build.log(i:Nat):Int:=(field_build.st 255).2.1.getD i 0
theorem field_build.log_range{i:Nat}(h:i<256):0<=field_build.log i/\field_build.log i<255:=by
 have hl:=(field_build.st_length 255).2;have h1:=List.all_eq_true.1 field_build.log_ok ((field_build.st 255).2.1[i]' zaa) (List.getElem_mem _);unfold field_build.log;rw[List.getD_eq_getElem?_getD,List.getElem?_eq_getElem zaa];simpa using h1
theorem field_build.cellE{W:World}{g:Nat}(h:W.heap[g]? =some (.cells field_build.T 101 (0,0))){j:Nat}(hj:j<510):W.cell? ⟨g,j,none⟩=some (.int .u8 (field_build.exp j)):=by
 rw[blk_cell h];exact field_build.cell_exp (by rw[(field_build.st_length 255).1];exact hj)
theorem field_build.cellL{W:World}{g:Nat}(h:W.heap[g]? =some (.cells field_build.T 101 (0,0))){j:Nat}(hj:j<256):W.cell? ⟨g,510+j,none⟩=some (.int .i64 (field_build.log j)):=by
 rw[blk_cell h];have h1:=field_build.cell_log (e:=(field_build.st 255).1) (l:=(field_build.st 255).2.1) (j:=j) (by rw[(field_build.st_length 255).2];exact hj);rw[(field_build.st_length 255).1]at h1
 exact h1
def field_Pow.f(a n:Int):Option (Int×Int):=
 if n=0 then some (1,0)else if a=0 then(if n<0 then some (0,5)else some (0,0))
 else if 0<=a/\a<256 then(field_bounded.f n).bind fun b=>if 0<=b/\b<255 then some (field_build.exp ((field_build.log a.toNat*b) % 255).toNat,0)else none else none
theorem field_Pow.calls(a0 a1:Int)(r1 r2:Int)(w:World)(h:field_Pow.f a0 a1=some (r1,r2)):
 Calls Try.prog 51 #[.int .u8 a0,.int .i64 a1] w fun e w'=>e= .returned (.tuple #[.int .u8 r1,.int .i64 r2])/\Below w.heap.size w w':=by
 unfold field_Pow.f at h;by_cases h1:a1=0
 ·rw[if_pos h1]at h
  obtain⟨rfl,rfl⟩:=Prod.mk.inj (Option.some.inj h);have c1:(a1==0)=true:=beq_iff_eq.mpr h1;clear h1 h
  go_enter Try.func51,Try.ntmps51
  go_wp2
  go_ret2
  exact⟨rfl,Below.refl _ _⟩
 ·rw[if_neg h1]at h
  have c1:(a1==0)=false:=beq_eq_false_iff_ne.mpr h1;clear h1;by_cases h2:a0=0
  ·rw[if_pos h2]at h
   have c2:(a0==0)=true:=beq_iff_eq.mpr h2;clear h2;by_cases h3:a1<0
   ·rw[if_pos h3]at h
    obtain⟨rfl,rfl⟩:=Prod.mk.inj (Option.some.inj h);clear h
    go_enter Try.func51,Try.ntmps51
    go_wp2
    go_ret2
    exact⟨rfl,Below.refl _ _⟩
   ·rw[if_neg h3]at h
    obtain⟨rfl,rfl⟩:=Prod.mk.inj (Option.some.inj h);clear h
    go_enter Try.func51,Try.ntmps51
    go_wp2
    go_ret2
    exact⟨rfl,Below.refl _ _⟩
  ·rw[if_neg h2]at h
   have c2:(a0==0)=false:=beq_eq_false_iff_ne.mpr h2;clear h2;by_cases h3:0<=a0/\a0<256
   ·rw[if_pos h3]at h
    obtain⟨b,hb,h⟩:=Option.bind_eq_some_iff.mp h;by_cases h4:0<=b/\b<255
    ·rw[if_pos h4]at h
     obtain⟨h5,h6⟩:=Prod.mk.inj (Option.some.inj h);obtain⟨I,J⟩:=h3;obtain⟨b0,b1⟩:=h4;have HBd:=aK hb;have H5:=aK h5;subst h6;clear hb h h5;obtain⟨x0,x1⟩:=field_build.log_range (i:=a0.toNat) zaa;have hlog: ∀W:World,∀g,W.heap[g]? =some (.cells field_build.T 101 (0,0))->W.cell? ⟨g,510+a0.toNat,none⟩=some (.int .i64 (field_build.log a0.toNat)):=fun W g hW=>field_build.cellL hW zaa;have hexp: ∀W:World,∀g,W.heap[g]? =some (.cells field_build.T 101 (0,0))->W.cell? ⟨g,((field_build.log a0.toNat*b) % 255).toNat,none⟩=some (.int .u8 (field_build.exp ((field_build.log a0.toNat*b) % 255).toNat)):=fun W g hW=>field_build.cellE hW zaa;have HLG:=aK hlog;have HEX:=aK hexp;clear hlog hexp;generalize field_build.log a0.toNat=x at*;have m0:0<=x*b:=Int.mul_nonneg x0 b0;have m1:x*b<=254*254:=Int.mul_le_mul zaa zaa b0 zaa;have e1:IntKind.i64.wrap (x*b)=x*b:=by rw[i64_w];unfold wrap64;omega
     obtain⟨q,hq⟩: ∃q:Int,q=x*b % 255:=⟨_,rfl⟩
     have e2:Int.tmod (x*b) 255=q:=by rw[hq];exact Int.tmod_eq_emod_of_nonneg m0
     have q0:0<=q:=by omega
     have q1:q<255:=by omega
     have e3:IntKind.i64.wrap q=q:=by rw[i64_w];unfold wrap64;omega
     rw[<-hq]at HEX H5
     clear hq m0 m1;have hz:=field_build.zero
     go_enter Try.func51,Try.ntmps51
     go_wp2_with (first|(go_at_call 58;refine(field_build.calls _).mono ?_;rintro e w1 ⟨rfl,D⟩;have G:=aK D;clear D)|(with_reducible refine wpList_store_row rfl 101 (.tmp 6) (.tmp 20) rfl w1.heap.size field_build.T rfl rfl 101 _ (blk_new _ _) field_build.infoT field_build.sizeZ field_build.oneT ?_;rw[World.setRow_alloc_new];have L:=HLG.out _ _ (blk_new w1 (.cells field_build.T 101));have O:=HEX.out _ _ (blk_new w1 (.cells field_build.T 101))))
     simp only[Act.put,List.setIfInBounds_toArray,List.set_cons_succ,List.set_cons_zero]
     go_quiet ((go_at_call 59;exact Calls.quiet_of ((field_bounded.calls a1 b _ HBd.out).mono (fun _ _ h=>⟨h.1,h.2.out⟩))))
     go_wp2
     go_ret2
     exact⟨by rw[<-H5.out];rfl,by repeat(first|exact G.out|apply pw_below_drewN|apply below_alloc)⟩
    ·rw[if_neg h4]at h
     cases h
   ·rw[if_neg h3]at h
    cases h
def field_Inv.f(a0:Int):Option (Int×Int):=(field_Pow.f a0 (-1)).bind fun D=>(some (D.1,D.2))
theorem field_Inv.calls(a0:Int)(r1:Int)(r2:Int)(w:World)(h:field_Inv.f a0=some (r1,r2)):
 Calls Try.prog 38 #[.int .u8 a0] w fun e w'=>e= .returned (.tuple #[.int .u8 r1,.int .i64 r2])/\Below w.heap.size w w':=by
 have HB:=aK (Below.refl w.heap.size w);have H:((field_Pow.f a0 (-1)).bind fun D=>(some (D.1,D.2)))=some (r1,r2):=h;clear h;obtain⟨⟨G,I⟩,A2,H⟩:=bindO H
 (try dsimp only at H)
 obtain⟨rfl,rfl⟩:=zP2 H
 go_enter Try.func38,Try.ntmps38
 go_wp2_with (first|((with_reducible refine gC 51 rfl ?_);refine cG (some 5) Try.func51 #[.int .u8 a0,.int .i64 (-1)] ?_;(with_reducible refine(field_Pow.calls a0 (-1) G I _ A2.out).mono ?_);rintro e w3 ⟨rfl,hb⟩;refine⟨_,rfl,?_⟩;replace HB:=hbB HB hb;(try clear hb)))
 go_ret2
 exact⟨rfE,hbA HB.out⟩
def invT(a:Int):Int:=((field_Inv.f a).getD (0,0)).1
theorem exp_range{i:Nat}(h:i<510):0<=field_build.exp i/\field_build.exp i<256:=by
 have h0:((field_build.st 255).1.all fun x=>decide (0<=x)&&decide (x<256))=true:=by decide+kernel
 have hl:=(field_build.st_length 255).1;have h1:=List.all_eq_true.1 h0 ((field_build.st 255).1[i]' zaa) (List.getElem_mem _);unfold field_build.exp;rw[List.getD_eq_getElem?_getD,List.getElem?_eq_getElem zaa];simpa using h1
theorem inv_some{a:Int}(h:0<=a/\a<256)(h0:a≠0):field_Inv.f a=some (invT a,0)/\0<=invT a/\invT a<256:=by
 have e:field_bounded.f (-1)=some 254:=by kernel_rfl
 have hl:=field_build.log_range (i:=a.toNat) zaa;have e2:field_Inv.f a=some (field_build.exp ((field_build.log a.toNat*254) % 255).toNat,0):=by
  unfold field_Inv.f field_Pow.f;rw[if_neg zaa,if_neg h0,if_pos h,e];simp
 have e3:invT a=field_build.exp ((field_build.log a.toNat*254) % 255).toNat:=by unfold invT;rw[e2,Option.getD_some]
 rw[e3];refine⟨e2,exp_range ?_⟩;generalize field_build.log a.toNat=q;omega
def invTo(n:Nat):List Int:=(List.range 256).map fun i=>if 1<=i/\i<n then invT (i:Int)else 0
theorem invTo_length(n:Nat):(invTo n).length=256:=by simp[invTo]
theorem invTo_get{n i:Nat}(h:i<256):(invTo n)[i]'(by rw[invTo_length];exact h)=if 1<=i/\i<n then invT (i:Int)else 0:=by simp[invTo]
theorem invTo_set{n:Nat}(h1:1<=n)(h:n<256):(invTo n).set n (invT (n:Int))=invTo (n+1):=by
 refine List.ext_getElem (by rw[List.length_set,invTo_length,invTo_length]) fun i h2 h3=>?_;have hi:i<256:=by rwa [invTo_length]at h3
 rw[List.getElem_set,invTo_get hi,invTo_get hi];by_cases e:n=i
 ·subst e;rw[if_pos rfl,if_pos ⟨h1,by omega⟩]
 ·rw[if_neg e];have:(1<=i/\i<n+1)↔(1<=i/\i<n):=⟨fun q=>⟨q.1,by omega⟩,fun q=>⟨q.1,by omega⟩⟩
  simp only[this]
def invC(n:Nat):Array Value:=(nums .u8 (invTo n)).toArray
theorem invC_size(n:Nat):(invC n).size=256:=by simp[invC,nums,invTo_length]
theorem invC_set{n:Nat}(h1:1<=n)(h:n<256):(invC n).setIfInBounds n (.int .u8 (invT (n:Int)))=invC (n+1):=by
 unfold invC nums;rw[List.setIfInBounds_toArray,<-invTo_set h1 h,List.map_set]
theorem invC_at{n i:Nat}(h:i<256):(invC n)[i]? =some (.int .u8 ((invTo n).getD i 0)):=by
 have hl:i<(invTo n).length:=by rw[invTo_length];exact h
 simp[invC,nums,List.getD_eq_getElem?_getD,hl]
theorem invC_one(n:Nat):(invC n).all (·.oneCell')=true:=by
 rw[Array.all_eq_true_iff_forall_mem];intro x hx;simp only[invC,nums,List.mem_toArray,List.mem_map]at hx;obtain⟨y,_,rfl⟩:=hx;rfl
def invZ:Array Value:=(nums .u8 (List.replicate 256 0)).toArray
theorem invC_zero:invZ=invC 1:=by
 unfold invC invZ;have e:List.replicate 256 (0:Int)=invTo 1:=?_
 ·rw[e]
 refine List.ext_getElem (by rw[invTo_length,List.length_replicate]) fun i h1 h2=>?_;rw[invTo_get (by rwa [invTo_length]at h2),List.getElem_replicate,if_neg zaa]
theorem invZ_zero(w:World):(zeroValue 54).run Try.prog w= .ok (.agg invZ) w:=by kernel_rfl
theorem inv_zero(w:World):(zeroValue 54).run Try.prog w= .ok (.agg (invC 1)) w:=invC_zero▸invZ_zero w
theorem inv_info:(Try.prog.info? 54).map (·.size)=some (invC 256).size:=by
 rw[invC_size];kernel_rfl
theorem share_inverses.goes(C:Nat->Array Value)(hz: ∀w,(zeroValue 54).run Try.prog w= .ok (.agg (C 1)) w)(hset: ∀n,1<=n->n<256->(C n).setIfInBounds n (.int .u8 (invT (n:Int)))=C (n+1))(hat: ∀n,n<256-> ∃v,(C n)[n]? =some (.int .u8 v))
 (hsz: ∀n,(C n).size=256) (hone:(C 256).all (·.oneCell')=true) (hinfo:(Try.prog.info? 54).map (·.size)=some (C 256).size) (w:World):Calls Try.prog 24 #[] w fun e w'=>e= .returned (.agg (C 256))/\Below w.heap.size w w':=by
 have HSET:=aK hset;have HAT:=aK hat;clear hset hat
 go_enter Try.func24,Try.ntmps24
 go_wp2_with fail
 go_loopw [2] (fun v wr=> ∃n:Nat,1<=n/\n<=256/\v= .int .i64 n/\Aside0 (wr.heap[w.heap.size+1]? =some (.cells (C n) 54 (0,0)))/\Aside0 (wr.heap[w.heap.size]? =some (.cells (C 1) 54 (0,0)))/\Aside0 (Below w.heap.size w wr)) (fun v _=>256-(intOf v).toNat)
 case atStart=>
  refine⟨1,by omega,by omega,rfl,⟨?_⟩,⟨?_⟩,⟨below_alloc (below_alloc (Below.refl _ _) _) _⟩⟩
  ·exact(heap_alloc2_new w _ _).trans rfl
  ·exact heap_alloc2_old w _ _
 case round=>
  obtain⟨n,I,hn,rfl,HT,HR,HB⟩:=hrel;by_cases hlt:n<256
  ·have HI:=aK (inv_some (a:=(n:Int)) zaa zaa).1;have HS:=aK (HSET.out n I hlt);obtain⟨y,hy⟩: ∃y,y=invT (n:Int):=⟨_,rfl⟩
   rw[<-hy]at HI HS
   clear hy;obtain⟨v,hv⟩:=HAT.out n hlt;have D:=(blk_cell HT.out n).trans hv;have J:=blk_frozen HT.out n;clear hv;have hlw:w.heap.size+1<wr.heap.size:=(Array.getElem?_eq_some_iff.1 HT.out).1;have HLW:=aK hlw;clear hlw
   go_wp2_with (go_at_call 38;refine(field_Inv.calls (n:Int) y 0 _ HI.out).mono ?_;rintro e' w' ⟨rfl,hb⟩;replace HT:=aK (blk_below HT.out hb);replace HR:=aK (blk_below HR.out hb);replace HB:=aK (HB.out.trans (hb.mono HB.out.size));replace D:=pw_cell_below hb D;have L:=blk_frozen HT.out n)
   go_roundw
   case rel=>
    refine⟨n+1,by omega,by omega,by go_num,⟨?_⟩,⟨?_⟩,⟨?_⟩⟩
    ·have s1:=blk_set HT.out n (.int .u8 y);rw[HS.out]at s1
     exact s1
    ·exact blk_far HR.out zac _
    ·exact HB.out.setCell zac _
   case measure=>simp[intOf];omega
  ·have hT:wr.heap[w.heap.size+1]? =some (.cells (C 256) 54 (0,0)):=by
    have h:=HT.out;rw[show n=256 from by omega]at h
    exact h
   have G:=aK hT;clear hT HT
   go_wp2_with (first|(with_reducible refine wpList_load_row rfl 54 (.tmp 1) rfl (w.heap.size+1) rfl 54 (C 256) (0,0) _ G.out Try.underlying54 rfl hinfo ?_)|(with_reducible refine wpList_store_row rfl 54 (.tmp 0) (.tmp 15) rfl w.heap.size (C 256) rfl rfl 54 _ HR.out hinfo ((hsz 1).trans (hsz 256).symm) hone ?_))
   exact bodyPost_ret (v:= .agg (C 256)) (results_cell_row rfl _ _ w.heap.size 54 (C 256) (0,0) _ rfl (setRow_heap _ _ _ _ _ _ HR.out) Try.underlying54 rfl hinfo) rfl ⟨rfl,below_setRow HB.out (Nat.le_refl _) _⟩
theorem share_inverses.calls(w:World):Calls Try.prog 24 #[] w fun e w'=>e= .returned (.agg (invC 256))/\Below w.heap.size w w':=
 share_inverses.goes invC inv_zero (fun _ h1 h=>invC_set h1 h) (fun _ h=>⟨_,invC_at h⟩) invC_size (invC_one 256) inv_info w
def share_ahead.f(D:Int)(G:Int)(U:Int)(I:Int)(J:Int)(L:Int)(X:Int)(O:Int):Option (Bool):=if I=O then(if D=J then(if G=L then(some (decide (U<X)))else(some (decide (G<L))))else(some (decide (D<J))))else(some (decide (I>O)))
theorem share_ahead.calls(J:Int)(L:Int)(aa:Int)(O:Int)(U:Int)(X:Int)(ab:Int)(Y:Int)(r:Bool)(w:World)(h:share_ahead.f J L aa O U X ab Y=some r):
 Calls Try.prog 40 #[.agg #[.int .i64 J,.int .i64 L,.int .u8 aa,.int .i64 O],.agg #[.int .i64 U,.int .i64 X,.int .u8 ab,.int .i64 Y]] w fun e w'=>e= .returned (.bool r)/\Below w.heap.size w w':=by
 have co:=Try.underlying27;have HB:=aK (Below.refl w.heap.size w);have H:(if O=Y then(if J=U then(if L=X then(some (decide (aa<ab)))else(some (decide (L<X))))else(some (decide (J<U))))else(some (decide (O>Y))))=some r:=h;clear h;by_cases c3:O=Y
 ·rw[if_pos c3]at H
  have c3b0:(O==Y)=true:=beq_iff_eq.mpr c3;have c3b1:(O !=Y)=false:=bne_eq_false_iff_eq.mpr c3;clear c3;by_cases c4:J=U
  ·rw[if_pos c4]at H
   have c4b0:(J==U)=true:=beq_iff_eq.mpr c4;have c4b1:(J !=U)=false:=bne_eq_false_iff_eq.mpr c4;clear c4;by_cases c5:L=X
   ·rw[if_pos c5]at H
    have c5b0:(L==X)=true:=beq_iff_eq.mpr c5;have c5b1:(L !=X)=false:=bne_eq_false_iff_eq.mpr c5;clear c5;obtain rfl:=Option.some.inj H
    go_enter Try.func40,Try.ntmps40
    go_wp2_with (first|((with_reducible refine gD 2 rfl ?_);refine bE 2 #[.int .i64 J,.int .i64 L,.int .u8 aa,.int .i64 O] 27 ?_;intro ah hg w6 hbox hb;have D:=aK (hbox);have af:=hbS HB hg;have ac:=hbS HB hg;replace HB:=hbB HB hb;clear hb hbox hg)|((with_reducible refine gD 3 rfl ?_);refine bE 3 #[.int .i64 U,.int .i64 X,.int .u8 ab,.int .i64 Y] 27 ?_;intro ai hg w7 hbox hb;have Z:=aK (hbox);have ag:=hbS HB hg;have ae:=hbS HB hg;replace HB:=hbB HB hb;have G:=neL D hg;have I:=neG D hg;replace D:=bkB D hb;clear hb hbox hg;have cm:=G.out;have cn:=I.out;obtain⟨b7,b8,b9,ca,cb,cd,ce,cf⟩:=cell4 D;obtain⟨aj,ak,al,am,bd,be,bf,bg⟩:=cell4 Z))
    go_ret
    exact⟨rfE,hbA HB.out⟩
   ·rw[if_neg c5]at H
    have c5b0:(L==X)=false:=beq_eq_false_iff_ne.mpr c5;have c5b1:(L !=X)=true:=bne_iff_ne.mpr c5;obtain rfl:=Option.some.inj H
    go_enter Try.func40,Try.ntmps40
    go_wp2_with (first|((with_reducible refine gD 2 rfl ?_);refine bE 2 #[.int .i64 J,.int .i64 L,.int .u8 aa,.int .i64 O] 27 ?_;intro ah hg cp hbox hb;have D:=aK (hbox);have af:=hbS HB hg;have ac:=hbS HB hg;replace HB:=hbB HB hb;clear hb hbox hg)|((with_reducible refine gD 3 rfl ?_);refine bE 3 #[.int .i64 U,.int .i64 X,.int .u8 ab,.int .i64 Y] 27 ?_;intro ai hg cq hbox hb;have Z:=aK (hbox);have ag:=hbS HB hg;have ae:=hbS HB hg;replace HB:=hbB HB hb;have G:=neL D hg;have I:=neG D hg;replace D:=bkB D hb;clear hb hbox hg;have cg:=G.out;have cj:=I.out;obtain⟨an,ao,ap,aq,bh,bi,bj,bk⟩:=cell4 D;obtain⟨ar,au,av,aw,bl,bm,bn,bo⟩:=cell4 Z))
    go_ret
    exact⟨rfE,hbA HB.out⟩
  ·rw[if_neg c4]at H
   have c4b0:(J==U)=false:=beq_eq_false_iff_ne.mpr c4;have c4b1:(J !=U)=true:=bne_iff_ne.mpr c4;obtain rfl:=Option.some.inj H
   go_enter Try.func40,Try.ntmps40
   go_wp2_with (first|((with_reducible refine gD 2 rfl ?_);refine bE 2 #[.int .i64 J,.int .i64 L,.int .u8 aa,.int .i64 O] 27 ?_;intro ah hg cr hbox hb;have D:=aK (hbox);have af:=hbS HB hg;have ac:=hbS HB hg;replace HB:=hbB HB hb;clear hb hbox hg)|((with_reducible refine gD 3 rfl ?_);refine bE 3 #[.int .i64 U,.int .i64 X,.int .u8 ab,.int .i64 Y] 27 ?_;intro ai hg ct hbox hb;have Z:=aK (hbox);have ag:=hbS HB hg;have ae:=hbS HB hg;replace HB:=hbB HB hb;have G:=neL D hg;have I:=neG D hg;replace D:=bkB D hb;clear hb hbox hg;have ch:=G.out;have ck:=I.out;obtain⟨ax,ay,az,a0,bp,bq,br,bs⟩:=cell4 D;obtain⟨a1,a2,a3,a4,bu,bv,bw,bx⟩:=cell4 Z))
   go_ret
   exact⟨rfE,hbA HB.out⟩
 ·rw[if_neg c3]at H
  have c3b0:(O==Y)=false:=beq_eq_false_iff_ne.mpr c3;have c3b1:(O !=Y)=true:=bne_iff_ne.mpr c3;obtain rfl:=Option.some.inj H
  go_enter Try.func40,Try.ntmps40
  go_wp2_with (first|((with_reducible refine gD 2 rfl ?_);refine bE 2 #[.int .i64 J,.int .i64 L,.int .u8 aa,.int .i64 O] 27 ?_;intro ah hg cu hbox hb;have D:=aK (hbox);have af:=hbS HB hg;have ac:=hbS HB hg;replace HB:=hbB HB hb;clear hb hbox hg)|((with_reducible refine gD 3 rfl ?_);refine bE 3 #[.int .i64 U,.int .i64 X,.int .u8 ab,.int .i64 Y] 27 ?_;intro ai hg cv hbox hb;have Z:=aK (hbox);have ag:=hbS HB hg;have ae:=hbS HB hg;replace HB:=hbB HB hb;have G:=neL D hg;have I:=neG D hg;replace D:=bkB D hb;clear hb hbox hg;have ci:=G.out;have cl:=I.out;obtain⟨a5,a6,a7,a8,bz,b0,b1,b2⟩:=cell4 D;obtain⟨a9,ba,bb,bc,b3,b4,b5,b6⟩:=cell4 Z))
  go_ret
  exact⟨rfE,hbA HB.out⟩
end Go.Proofs.Ytnfemjnajfdepaa.Q
