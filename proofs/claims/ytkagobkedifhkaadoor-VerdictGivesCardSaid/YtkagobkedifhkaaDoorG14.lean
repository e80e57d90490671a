/- Texts of the proof of VerdictGives: what each Go function answers, and what the answers mean; no condition beyond each theorem's own. -/
import Derived.Test.YtkagobkedifhkaaDoorG13
namespace Go.Proofs.YtkagobkedifhkaaDoor.Q
open Go.RowKit Go.Proofs.YtkagobkedifhkaaDoorW.PrintWords Go.Proofs.YtkagobkedifhkaaDoorW.PrintLast Go.Proofs.YtkagobkedifhkaaDoorW.PrintMore
attribute [local go_sem] max2_int min2_int max_two min_two max_three min_three max_four min_four
set_option linter.unusedVariables false
set_option linter.unusedSimpArgs false
def dotF(X Y:Nat→Int):Nat→Int
 |0=>0
 |i+1=>Go.bits .xor .u8 (dotF X Y i) (mulT (X i) (Y i))
set_option maxHeartbeats 2000000 in
set_option maxRecDepth 100000 in
theorem field_Dot.row(n:Nat)(A1 A2:Option Addr)(c1 c2:Nat)(X Y:Nat→Int)(w:World)(hn:n≤64)(hX: ∀q,q<n→0≤X q∧X q<256)(hY: ∀q,q<n→0≤Y q∧Y q<256)
 (h1: ∀q,q<n→ ∃ad,A1=some ad∧w.cell? (ad.add q)=some (.int .u8 (X q))) (h2: ∀q,q<n→ ∃ad,A2=some ad∧w.cell? (ad.add q)=some (.int .u8 (Y q))):
 Calls Tryd.prog 73 #[.slice A1 n c1,.slice A2 n c2] w fun e w'=>e= .returned (.tuple #[.int .u8 (dotF X Y n),.int .i64 0])∧Below w.heap.size w w':=by
 have HX:=aK hX;have HY:=aK hY;have H1:=aK h1;have H2:=aK h2;clear hX hY h1 h2;have hz:=field_build.zero;have ceq:((n:Int)!=(n:Int))=false:=by simp
 go_enter Tryd.func73,Tryd.ntmps73
 go_wp2_with (first|(go_at_call 86;refine(field_build.calls _).mono ?_;rintro e w1 ⟨rfl,G⟩;have D:=aK G;clear G)|(with_reducible refine wpList_store_row rfl 116 (.tmp 6) (.tmp 15) rfl w1.heap.size field_build.T rfl rfl 116 _ (blk_new _ _) field_build.infoT field_build.sizeZ field_build.oneT ?_;rw[World.setRow_alloc_new];simp only[Act.put,List.setIfInBounds_toArray,List.set_cons_succ,List.set_cons_zero]))
 have Z:=D.out.size;have hTb:(w1.alloc (.cells field_build.T 116)).heap[w1.heap.size]? =some (.cells field_build.T 116 (0,0)):=blk_new w1 _;have hBb:Below w.heap.size w (w1.alloc (.cells field_build.T 116)):=below_alloc D.out _;generalize w1.alloc (.cells field_build.T 116)=W1 at*
 go_loopw [7,18] (fun s v wr=> ∃i:Nat,i≤n∧v= .int .i64 i∧s= .int .u8 (dotF X Y i)∧Aside0 (wr.heap[w1.heap.size]? =some (.cells field_build.T 116 (0,0)))∧Aside0 (Below w.heap.size w wr)) (fun _ v _=>n-(intOf v).toNat)
 case atStart=>exact⟨0,by omega,rfl,rfl,⟨hTb⟩,⟨hBb⟩⟩
 case round=>
  obtain⟨i,hi,rfl,rfl,HTB,HB⟩:=hrel;clear hTb hBb;by_cases hlt:i<n
  ·obtain⟨a1,e1,x1⟩:=H1.out i hlt;obtain⟨a2,e2,x2⟩:=H2.out i hlt;subst e1 e2;have aa:=pw_cell_below HB.out x1;have ab:=pw_cell_below HB.out x2;obtain⟨I,J⟩:=HX.out i hlt;obtain⟨O,U⟩:=HY.out i hlt;have hd:dotF X Y (i+1)=Go.bits .xor .u8 (dotF X Y i) (mulT (X i) (Y i)):=rfl;have HD:=aK hd;clear hd x1 x2;generalize X i=x at*;generalize Y i=y at*;have p0:(0:Int)≤(i:Int):=by omega
   have p1:(i:Int)<(n:Int):=by omega
   go_wp2_with (go_at_call 87;refine(tables_mul.calls w1.heap.size x y _ HTB.out I J O U).mono ?_;rintro e w' ⟨rfl,⟨nd,rfl⟩⟩)
   go_roundw
   case rel=>exact⟨i+1,by omega,by go_num,by rw[HD.out],⟨blk_drewN HTB.out _⟩,⟨pw_below_drewN HB.out _⟩⟩
   case measure=>simp[intOf];omega
  ·obtain rfl:i=n:=by omega
   go_wp2
   go_ret2
   exact⟨rfl,HB.out⟩
def rowF(l:List Int)(m i:Nat):Nat→Int:=fun k=>l.getD (i*m+k) 0
def midM(n m p:Nat)(l1 l2:List Int)(i j:Nat):List Int:=(List.range (n*p)).map fun q=>if q / p<i∨(q / p=i∧q % p<j)then dotF (rowF l1 m (q / p)) (rowF (transL m p l2) m (q % p)) m else 0
def mulF(n m p:Nat)(l1 l2:List Int):List Int:=(List.range (n*p)).map fun q=>dotF (rowF l1 m (q / p)) (rowF (transL m p l2) m (q % p)) m
theorem midM_length(n m p:Nat)(l1 l2:List Int)(i j:Nat):(midM n m p l1 l2 i j).length=n*p:=by simp[midM]
theorem midM_zero(n m p:Nat)(l1 l2:List Int):midM n m p l1 l2 0 0=List.replicate (n*p) 0:=by
 apply List.ext_getElem (by simp[midM]);intro q h1 h2;simp[midM]
theorem midM_step{n m p:Nat}{l1 l2:List Int}{i j:Nat}(hi:i<n)(hj:j<p):(midM n m p l1 l2 i j).set (i*p+j) (dotF (rowF l1 m i) (rowF (transL m p l2) m j) m)=midM n m p l1 l2 i (j+1):=by
 have hm:(i*p+j) % p=j:=by rw[Nat.add_comm,Nat.add_mul_mod_self_right,Nat.mod_eq_of_lt hj]
 have hd:(i*p+j) / p=i:=by rw[Nat.add_comm,Nat.add_mul_div_right _ _ za,Nat.div_eq_of_lt hj,Nat.zero_add]
 apply List.ext_getElem (by simp[midM]);intro q h1 h2;simp only[midM,List.getElem_set,List.getElem_map,List.getElem_range];by_cases e:i*p+j=q
 ·subst e;rw[if_pos rfl,hm,hd,if_pos (.inr ⟨rfl,by omega⟩)]
 ·rw[if_neg e];have hq:=Nat.div_add_mod q p;by_cases c:q / p<i∨(q / p=i∧q % p<j)
  ·rw[if_pos c,if_pos (c.imp id (fun⟨a,b⟩=>⟨a,by omega⟩))]
  ·rw[if_neg c,if_neg];rintro(h|⟨h,h'⟩)
   ·exact c (.inl h)
   ·rcases Nat.lt_or_eq_of_le (Nat.le_of_lt_succ h')with h3|h3
    ·exact c (.inr ⟨h,h3⟩)
    ·apply e;rw[h,h3]at hq
     rw[Nat.mul_comm];exact hq
theorem midM_row{n m p:Nat}{l1 l2:List Int}{i:Nat} :midM n m p l1 l2 i p=midM n m p l1 l2 (i+1) 0:=by
 apply List.ext_getElem (by simp[midM]);intro q h1 h2;rw[midM_length]at h1
 have hp:0<p:=by
  rcases Nat.eq_zero_or_pos p with h|h
  ·subst h;simp at h1
  ·exact h
 have hq:=Nat.mod_lt q hp;simp only[midM,List.getElem_map,List.getElem_range];have:(q / p<i∨(q / p=i∧q % p<p))↔(q / p<i+1∨(q / p=i+1∧q % p<0)):=by
  generalize q % p=a at*;generalize q / p=b at*;omega
 by_cases c:q / p<i∨(q / p=i∧q % p<p)
 ·rw[if_pos c,if_pos (this.1 c)]
 ·rw[if_neg c,if_neg (fun h=>c (this.2 h))]
theorem midM_all{n m p:Nat}{l1 l2:List Int} :midM n m p l1 l2 n 0=mulF n m p l1 l2:=by
 apply List.ext_getElem (by simp[midM,mulF]);intro q h1 h2;rw[midM_length]at h1
 have hp:0<p:=by
  rcases Nat.eq_zero_or_pos p with h|h
  ·subst h;simp at h1
  ·exact h
 simp only[midM,mulF,List.getElem_map,List.getElem_range];rw[if_pos (.inl ((Nat.div_lt_iff_lt_mul hp).2 h1))]
structure MulA (w:World) (n m m2 p:Int) (c1 c2:Nat) (A1 A2:Option Addr) (l1 l2:List Int) (wr:World):Prop where
 ha:wr.heap[w.heap.size]? =some (.cells #[.int .i64 n,.int .i64 m,.slice A1 l1.length c1] 24 (0,0))
 hb:wr.heap[w.heap.size+1]? =some (.cells #[.int .i64 m2,.int .i64 p,.slice A2 l2.length c2] 24 (0,0))
 hr:wr.heap[w.heap.size+2]? =some (.cells #[.int .i64 0,.int .i64 0,.slice none 0 0] 24 (0,0))
 below:Below w.heap.size w wr
theorem MulA.next{w:World}{n m m2 p:Int}{c1 c2:Nat}{A1 A2:Option Addr}{l1 l2:List Int}{wr w1:World}(h:MulA w n m m2 p c1 c2 A1 A2 l1 l2 wr)(hb:Below wr.heap.size wr w1):MulA w n m m2 p c1 c2 A1 A2 l1 l2 w1:=
 ⟨(hb.block _ (lt_of_get h.ha)).trans h.ha,(hb.block _ (lt_of_get h.hb)).trans h.hb,(hb.block _ (lt_of_get h.hr)).trans h.hr,below_step h.below hb⟩
theorem MulA.start(w:World)(n m m2 p:Int)(c1 c2:Nat)(A1 A2:Option Addr)(l1 l2:List Int):MulA w n m m2 p c1 c2 A1 A2 l1 l2 (((w.alloc (.cells #[.int .i64 n,.int .i64 m,.slice A1 l1.length c1] 24)).alloc (.cells #[.int .i64 m2,.int .i64 p,.slice A2 l2.length c2] 24)).alloc (.cells #[.int .i64 0,.int .i64 0,.slice none 0 0] 24)):=by
 have ha:=heap_alloc2_old w (.cells #[.int .i64 n,.int .i64 m,.slice A1 l1.length c1] 24) (.cells #[.int .i64 m2,.int .i64 p,.slice A2 l2.length c2] 24);have hb:=heap_alloc2_old (w.alloc (.cells #[.int .i64 n,.int .i64 m,.slice A1 l1.length c1] 24)) (.cells #[.int .i64 m2,.int .i64 p,.slice A2 l2.length c2] 24) (.cells #[.int .i64 0,.int .i64 0,.slice none 0 0] 24);have hr:=blk_new ((w.alloc (.cells #[.int .i64 n,.int .i64 m,.slice A1 l1.length c1] 24)).alloc (.cells #[.int .i64 m2,.int .i64 p,.slice A2 l2.length c2] 24)) (.cells #[.int .i64 0,.int .i64 0,.slice none 0 0] 24);rw[World.size_alloc]at hb
 rw[World.size_alloc,World.size_alloc]at hr
 exact⟨((below_alloc (Below.refl _ _) _).block _ (lt_of_get ha)).trans ha,hb,hr,below_alloc (below_alloc (below_alloc (Below.refl w.heap.size w) _) _) _⟩
structure MulB (w:World) (n m p c1 c2:Nat) (A1 A2:Option Addr) (l1 l2:List Int) (d4 d6 d7 d8:Bool) (v4 v6:Value) (g7 g8:Nat) (wr:World):Prop where
 mm:MulA w n m m p c1 c2 A1 A2 l1 l2 wr
 h4:d4=true→Kd.R (Kd.int .u8) 5 wr w.heap.size (fun _=>True) v4 (List.replicate (n*p) 0)
 h6:d6=true→Kd.R (Kd.int .u8) 5 wr w.heap.size (fun _=>True) v6 (transL m p l2)
 h7:d7=true→wr.heap[g7]? =some (.cells #[.int .i64 0,.int .i64 0,.slice none 0 0] 24 (0,0))∧w.heap.size+3≤g7
 h8:d8=true→wr.heap[g8]? =some (.cells #[.int .i64 0,.int .i64 0,.slice none 0 0] 24 (0,0))∧w.heap.size+3≤g8
 n46:d4=true→d6=true→ ∀k,v4.ownBlock=some k→v6.ownBlock≠some k
 n78:d7=true→d8=true→g7≠g8
section
variable {w:World} {n m p c1 c2:Nat} {A1 A2:Option Addr} {l1 l2:List Int} {d4 d6 d7 d8:Bool} {v4 v6:Value} {g7 g8:Nat} {wr w1:World}
theorem MulA.size{n m m2 p:Int}(h:MulA w n m m2 p c1 c2 A1 A2 l1 l2 wr):w.heap.size+3≤wr.heap.size:=lt_of_get h.hr
theorem MulB.start(h:MulA w n m m p c1 c2 A1 A2 l1 l2 wr)(v4 v6:Value)(g7 g8:Nat):MulB w n m p c1 c2 A1 A2 l1 l2 false false false false v4 v6 g7 g8 wr:=
 ⟨h,(fun e=>by cases e),(fun e=>by cases e),(fun e=>by cases e),(fun e=>by cases e),(fun e=>by cases e),fun e=>by cases e⟩
theorem MulB.next(h:MulB w n m p c1 c2 A1 A2 l1 l2 d4 d6 d7 d8 v4 v6 g7 g8 wr)(hb:Below wr.heap.size wr w1):MulB w n m p c1 c2 A1 A2 l1 l2 d4 d6 d7 d8 v4 v6 g7 g8 w1:=
 ⟨h.mm.next hb,fun e=>Kd.R_below (h.h4 e) hb,fun e=>Kd.R_below (h.h6 e) hb,fun e=>⟨(hb.block _ (lt_of_get (h.h7 e).1)).trans (h.h7 e).1,(h.h7 e).2⟩,fun e=>⟨(hb.block _ (lt_of_get (h.h8 e).1)).trans (h.h8 e).1,(h.h8 e).2⟩,h.n46,h.n78⟩
theorem MulB.blank(h:MulB w n m p c1 c2 A1 A2 l1 l2 d4 false d7 d8 v4 v6 g7 g8 wr){v:Value}(hb:Below wr.heap.size wr w1)(ho:Kd.R (Kd.int .u8) 5 w1 wr.heap.size (fun _=>True) v (List.replicate (n*p) 0)):MulB w n m p c1 c2 A1 A2 l1 l2 true false d7 d8 v v6 g7 g8 w1:=by
 have h1:=h.next hb;exact⟨h1.mm,fun _=>Kd.R_lower ho (below_size h.mm.below),h1.h6,h1.h7,h1.h8,(fun _ e=>by cases e),h1.n78⟩
theorem MulB.turned(h:MulB w n m p c1 c2 A1 A2 l1 l2 true d6 d7 d8 v4 v6 g7 g8 wr){v:Value}(hb:Below wr.heap.size wr w1)(ho:Kd.R (Kd.int .u8) 5 w1 wr.heap.size (fun _=>True) v (transL m p l2)):MulB w n m p c1 c2 A1 A2 l1 l2 true true d7 d8 v4 v g7 g8 w1:=by
 have h1:=h.next hb;refine⟨h1.mm,h1.h4,fun _=>Kd.R_lower ho (below_size h.mm.below),h1.h7,h1.h8,fun _ _ k hk e=>?_,h1.n78⟩;have a1:=Kd.R_lt (h.h4 rfl) k hk;have a2:=Kd.R_base ho k e;omega
theorem MulB.box7(h:MulB w n m p c1 c2 A1 A2 l1 l2 d4 d6 false d8 v4 v6 g7 g8 wr):MulB w n m p c1 c2 A1 A2 l1 l2 d4 d6 true d8 v4 v6 wr.heap.size g8 (wr.alloc (.cells #[.int .i64 0,.int .i64 0,.slice none 0 0] 24)):=by
 have h1:=h.next (below_alloc (Below.refl wr.heap.size wr) (.cells #[.int .i64 0,.int .i64 0,.slice none 0 0] 24));exact⟨h1.mm,h1.h4,h1.h6,fun _=>⟨blk_new _ _,h.mm.size⟩,h1.h8,h1.n46,fun _ e q=>by have:=lt_of_get (h.h8 e).1;omega⟩
theorem MulB.box8(h:MulB w n m p c1 c2 A1 A2 l1 l2 d4 d6 d7 false v4 v6 g7 g8 wr):MulB w n m p c1 c2 A1 A2 l1 l2 d4 d6 d7 true v4 v6 g7 wr.heap.size (wr.alloc (.cells #[.int .i64 0,.int .i64 0,.slice none 0 0] 24)):=by
 have h1:=h.next (below_alloc (Below.refl wr.heap.size wr) (.cells #[.int .i64 0,.int .i64 0,.slice none 0 0] 24));exact⟨h1.mm,h1.h4,h1.h6,h1.h7,fun _=>⟨blk_new _ _,h.mm.size⟩,h1.n46,fun e _ q=>by have:=lt_of_get (h.h7 e).1;omega⟩
end
def byB(l:List Int):Bool:=l.all fun x=>decide (0≤x)&&decide (x<256)
theorem byB_getD{l:List Int}(h:byB l=true)(i:Nat):0≤l.getD i 0∧l.getD i 0<256:=by
 rw[List.getD_eq_getElem?_getD];rcases Nat.lt_or_ge i l.length with hi|hi
 ·rw[List.getElem?_eq_getElem hi,Option.getD_some];have:=List.all_eq_true.1 h _ (List.getElem_mem hi);simpa using this
 ·rw[List.getElem?_eq_none hi];decide
theorem transL_byte{a b:Nat}{l:List Int}(h:byB l=true)(i:Nat):0≤(transL a b l).getD i 0∧(transL a b l).getD i 0<256:=by
 rw[List.getD_eq_getElem?_getD,show transL a b l=(List.range (b*a)).map (fun q=>l.getD (q % a*b+q / a) 0)from rfl,List.getElem?_map]
 cases (List.range (b*a))[i]? with
 |none=>exact(by decide:(0:Int)≤0∧(0:Int)<256)
 |some q=>exact byB_getD h _
theorem transL_len(a b:Nat)(l:List Int):(transL a b l).length=b*a:=by
 rw[show transL a b l=(List.range (b*a)).map (fun q=>l.getD (q % a*b+q / a) 0)from rfl,List.length_map,List.length_range]
theorem addr_add_add(ad:Addr)(f j:Nat):(ad.add f).add j=ad.add (f+j):=by
 unfold Addr.add;by_cases a:f=0<;>by_cases b:j=0<;>simp[a,b]
 all_goals omega
theorem row_reads{w:World}{A:Option Addr}{l:List Int}{m i:Nat}(hC:Kd.C (Kd.int .u8) w A l.length l)(hl:(i+1)*m≤l.length)(q:Nat)(hq:q<m): ∃ad,(if(i+1)*m=i*m then A else A.map (·.add (i*m)))=some ad∧w.cell? (ad.add q)=some (.int .u8 (rowF l m i q)):=by
 have h1:(i+1)*m=i*m+m:=by rw[Nat.add_mul,Nat.one_mul]
 obtain⟨ad,eA,hx⟩:=Kd.at_int hC ((i*m+q:Nat):Int) za za;refine⟨ad.add (i*m),by rw[if_neg za,eA];rfl,?_⟩;rw[addr_add_add];rw[Int.toNat_natCast]at hx
 rw[hx];unfold rd rowF;rw[Int.toNat_natCast]
theorem reads_below{w w1:World}{A:Option Addr}{F:Nat→Int}{m:Nat}(hb:Below w.heap.size w w1)(h: ∀q,q<m→ ∃ad,A=some ad∧w.cell? (ad.add q)=some (.int .u8 (F q)))(q:Nat)(hq:q<m): ∃ad,A=some ad∧w1.cell? (ad.add q)=some (.int .u8 (F q)):=by
 obtain⟨ad,e,hx⟩:=h q hq;exact⟨ad,e,pw_cell_below hb hx⟩
theorem R_but{w:World}{base t xb:Nat}{ok:Nat→Prop}{v:Value}{xs:List Int}(h:Kd.R (Kd.int .u8) t w base ok v xs)(hne: ∀k,v.ownBlock=some k→k≠xb):Kd.R (Kd.int .u8) t w base (fun k=>k≠xb) v xs:=by
 obtain⟨_,inner,ho,hr⟩:=h;exact⟨hne,inner,ho,hr.imp_ (fun _ _ hp=>hp)⟩
structure MulC (w:World) (n m p c1 c2 g7 g8:Nat) (A1 A2:Option Addr) (l1 l2:List Int) (v4 v6:Value) (L:List Int) (wr:World):Prop where
 mm:MulA w n m m p c1 c2 A1 A2 l1 l2 wr
 h7:wr.heap[g7]? =some (.cells #[.int .i64 n,.int .i64 p,v4] 24 (0,0))
 h8:wr.heap[g8]? =some (.cells #[.int .i64 p,.int .i64 m,v6] 24 (0,0))
 d4:Kd.R (Kd.int .u8) 5 wr w.heap.size (fun _=>True) v4 L
 d6:Kd.R (Kd.int .u8) 5 wr w.heap.size (fun _=>True) v6 (transL m p l2)
 n46: ∀k,v4.ownBlock=some k→v6.ownBlock≠some k
section
variable {w:World} {n m p c1 c2 g7 g8:Nat} {A1 A2:Option Addr} {l1 l2:List Int} {v4 v6:Value} {L:List Int} {wr w1:World}
theorem MulC.next(h:MulC w n m p c1 c2 g7 g8 A1 A2 l1 l2 v4 v6 L wr)(hb:Below wr.heap.size wr w1):MulC w n m p c1 c2 g7 g8 A1 A2 l1 l2 v4 v6 L w1:=
 ⟨h.mm.next hb,(hb.block _ (lt_of_get h.h7)).trans h.h7,(hb.block _ (lt_of_get h.h8)).trans h.h8,Kd.R_below h.d4 hb,Kd.R_below h.d6 hb,h.n46⟩
theorem cells_other{wr:World}{k xb:Nat}{ca cells:Array Value}(h1:wr.heap[k]? =some (.cells ca 24 (0,0)))(hc:wr.heap[xb]? =some (.cells cells 5 (0,0))):k≠xb:=fun e=>by
 subst e;rw[h1]at hc
 injection hc with hc;injection hc with _ hc;exact absurd hc zc
theorem MulC.put{xb nx cx:Nat}(h:MulC w n m p c1 c2 g7 g8 A1 A2 l1 l2 (.slice (some ⟨xb,0,none⟩) nx cx) v6 L wr)(q:Nat)(x:Int):MulC w n m p c1 c2 g7 g8 A1 A2 l1 l2 (.slice (some ⟨xb,0,none⟩) nx cx) v6 (L.set q x) (wr.setCell ⟨xb,q,none⟩ (.int .u8 x)):=by
 obtain⟨_,cells,hc⟩:=own_addr (b:=xb) h.d4 rfl;have hx:w.heap.size≤xb:=((Kd.R_bound h.d4).1 xb rfl).2.1;have hne: ∀(a:Nat) (ca:Array Value),wr.heap[a]? =some (.cells ca 24 (0,0))→a≠xb:=fun a ca h1=>cells_other h1 hc;have hp:=Kd.R_putn h.d4 (q:Int) x;rw[Int.toNat_natCast]at hp
 have go: ∀ {a:Nat} {ca:Array Value},wr.heap[a]? =some (.cells ca 24 (0,0))→(wr.setCell ⟨xb,q,none⟩ (.int .u8 x)).heap[a]? =some (.cells ca 24 (0,0)):=fun h1=>(Below.heap_setCell _ _ _ _ (hne _ _ h1)).trans h1;refine⟨⟨go h.mm.ha,go h.mm.hb,go h.mm.hr,h.mm.below.setCell hx _⟩,go h.h7,go h.h8,hp,?_,h.n46⟩;have h6:Kd.R (Kd.int .u8) 5 wr w.heap.size (fun k=>k≠xb) v6 (transL m p l2):=R_but h.d6 (fun k hk e=>h.n46 xb rfl (e▸hk));exact Kd.R_mono (Kd.R_far h6 (p:=⟨xb,q,none⟩) (fun k hk=>hk) _) (fun _ _=>trivial)
theorem MulB.stored(h:MulB w n m p c1 c2 A1 A2 l1 l2 true true true true v4 v6 g7 g8 wr): ∀W,W=((wr.setCell ⟨g7,0,none⟩ (.int .i64 n)).setCell ⟨g7,1,none⟩ (.int .i64 p)).setCell ⟨g7,2,none⟩ v4→
 W.heap[g8]? =some (.cells #[.int .i64 0,.int .i64 0,.slice none 0 0] 24 (0,0))∧(∀W',W'=((W.setCell ⟨g8,0,none⟩ (.int .i64 p)).setCell ⟨g8,1,none⟩ (.int .i64 m)).setCell ⟨g8,2,none⟩ v6→MulC w n m p c1 c2 g7 g8 A1 A2 l1 l2 v4 v6 (List.replicate (n*p) 0) W'):=by
 intro W hW;have G:g7≠g8:=h.n78 rfl rfl;obtain⟨h7,l7⟩:=h.h7 rfl;obtain⟨h8,l8⟩:=h.h8 rfl;have D: ∀(w0:World) (g k:Nat) (a b c:Value),k≠g→(((w0.setCell ⟨g,0,none⟩ a).setCell ⟨g,1,none⟩ b).setCell ⟨g,2,none⟩ c).heap[k]? =w0.heap[k]? :=fun w0 g k a b c hk=>
  (Below.heap_setCell _ _ _ _ hk).trans ((Below.heap_setCell _ _ _ _ hk).trans (Below.heap_setCell _ _ _ _ hk))
 have R3: ∀(w0:World) (g:Nat) (a b c:Value) (v:Value) (xs:List Int) (ca:Array Value),w0.heap[g]? =some (.cells ca 24 (0,0))→Kd.R (Kd.int .u8) 5 w0 w.heap.size (fun _=>True) v xs→Kd.R (Kd.int .u8) 5 (((w0.setCell ⟨g,0,none⟩ a).setCell ⟨g,1,none⟩ b).setCell ⟨g,2,none⟩ c) w.heap.size (fun _=>True) v xs:=fun w0 g a b c v xs ca hg hR=>by
  have h1:=Kd.R_types hR hg (fun q hq=>by obtain rfl:q=5:=(List.mem_cons.1 hq).elim id (fun hx=>by cases hx);decide);exact Kd.R_mono (Kd.R_far (Kd.R_far (Kd.R_far h1 (p:=⟨g,0,none⟩) (fun k hk=>hk.2) _) (p:=⟨g,1,none⟩) (fun k hk=>hk.2) _) (p:=⟨g,2,none⟩) (fun k hk=>hk.2) _) (fun _ _=>trivial)
 have b3: ∀(w0:World) (g:Nat) (a b c:Value),w.heap.size≤g→Below w.heap.size w w0→Below w.heap.size w (((w0.setCell ⟨g,0,none⟩ a).setCell ⟨g,1,none⟩ b).setCell ⟨g,2,none⟩ c):=fun w0 g a b c hg hB=>((hB.setCell hg _).setCell hg _).setCell hg _;have e8:W.heap[g8]? =some (.cells #[.int .i64 0,.int .i64 0,.slice none 0 0] 24 (0,0)):=by rw[hW,D _ _ _ _ _ _ (Ne.symm G)];exact h8
 refine⟨e8,fun W' hW'=>?_⟩;have q7:W.heap[g7]? =some (.cells #[.int .i64 n,.int .i64 p,v4] 24 (0,0)):=by
  rw[hW];exact blk_put (cs:= #[.int .i64 n,.int .i64 p,.slice none 0 0]) (blk_put (cs:= #[.int .i64 n,.int .i64 0,.slice none 0 0]) (blk_put (cs:= #[.int .i64 0,.int .i64 0,.slice none 0 0]) h7 0 _ rfl) 1 _ rfl) 2 _ rfl
 have old: ∀(k:Nat) (ca:Array Value),k<w.heap.size+3→wr.heap[k]? =some (.cells ca 24 (0,0))→W'.heap[k]? =some (.cells ca 24 (0,0)):=fun k ca hk hh=>by
  rw[hW',D _ _ _ _ _ _ za,hW,D _ _ _ _ _ _ za];exact hh
 refine⟨⟨old _ _ za h.mm.ha,old _ _ za h.mm.hb,old _ _ za h.mm.hr,?_⟩,?_,?_,?_,?_,h.n46 rfl rfl⟩
 ·rw[hW',hW];exact b3 _ _ _ _ _ za (b3 _ _ _ _ _ za h.mm.below)
 ·rw[hW',D _ _ _ _ _ _ G];exact q7
 ·rw[hW'];exact blk_put (cs:= #[.int .i64 p,.int .i64 m,.slice none 0 0]) (blk_put (cs:= #[.int .i64 p,.int .i64 0,.slice none 0 0]) (blk_put (cs:= #[.int .i64 0,.int .i64 0,.slice none 0 0]) e8 0 _ rfl) 1 _ rfl) 2 _ rfl
 ·rw[hW'];refine R3 _ _ _ _ _ _ _ _ e8 ?_;rw[hW];exact R3 _ _ _ _ _ _ _ _ h7 (h.h4 rfl)
 ·rw[hW'];refine R3 _ _ _ _ _ _ _ _ e8 ?_;rw[hW];exact R3 _ _ _ _ _ _ _ _ h7 (h.h6 rfl)
end
def matrix_Mul.f(a b:Int)(l:List Int)(c d:Int)(l':List Int):Option (Int×Int×List Int×Int):=(matrix_Right.f a b l).bind fun ta=>if ta=true then(matrix_Right.f c d l').bind fun tb=>if tb=true then if b=c then(if byB l=true∧byB l'=true then some (a,d,mulF a.toNat b.toNat d.toNat l l',0)else none)else some (0,0,[],3)else some (0,0,[],3)else some (0,0,[],3)
set_option maxHeartbeats 8000000 in
set_option maxRecDepth 100000 in
theorem matrix_Mul.calls(ak:Int)(ae:Int)(U:Option Addr)(X:Nat)(O:List Int)(af:Int)(al:Int)(I:Option Addr)(J:Nat)(G:List Int)(r1:Int)(r2:Int)(r3:List Int)(r4:Int)(w:World)(a3:Kd.C (Kd.int .u8) w U O.length O)(a1:O.length≤X)(a4:Kd.C (Kd.int .u8) w I G.length G)(a2:G.length≤J)(h:matrix_Mul.f ak ae O af al G=some (r1,r2,r3,r4)):
 Calls Tryd.prog 48 #[.agg #[.int .i64 ak,.int .i64 ae,.slice U O.length X],.agg #[.int .i64 af,.int .i64 al,.slice I G.length J]] w fun e w'=> ∃v2_:Value,e= .returned (.tuple #[.agg #[.int .i64 r1,.int .i64 r2,v2_],.int .i64 r4])∧Kd.R (Kd.int .u8) 5 w' w.heap.size (fun _=>True) v2_ r3∧Below w.heap.size w w':=by
 have cg:=Tryd.underlying24;have bo:=aK a3;have bn:=aK a1;have au:=aK a4;have ar:=aK a2;clear a3 a1 a4 a2;unfold matrix_Mul.f at h;obtain⟨ta,hta,h2⟩:=Option.bind_eq_some_iff.mp h;clear h;have h:=h2;clear h2;have HA:=aK hta;clear hta
 go_enter Tryd.func48,Tryd.ntmps48
 go_upto_region 1 with(fail)
 have HM:=aK (MulA.start w ak ae af al X J U I O G);generalize((w.alloc (.cells #[.int .i64 ak,.int .i64 ae,.slice U O.length X] 24)).alloc (.cells #[.int .i64 af,.int .i64 al,.slice I G.length J] 24)).alloc (.cells #[.int .i64 0,.int .i64 0,.slice none 0 0] 24)=w2 at*;have z0:w2.cell? ⟨w.heap.size,0,none⟩=some (.int .i64 ak):=(blk_cell HM.out.ha 0).trans rfl;have z1:w2.cell? ⟨w.heap.size,1,none⟩=some (.int .i64 ae):=(blk_cell HM.out.ha 1).trans rfl;have z2:w2.cell? ⟨w.heap.size,2,none⟩=some (.slice U O.length X):=(blk_cell HM.out.ha 2).trans rfl
 go_wp2_with fail
 refine(matrix_Right.calls ak ae U X O ta _ (Kd.C_below bo.out HM.out.below) bn.out HA.out).mono ?_;rintro e w3 ⟨rfl,bs⟩;have ac:=aK (HM.out.next bs);clear z0 z1 z2 bs HM
 cases ta with
 |false=>
  simp only[Bool.false_eq_true,if_false]at h;simp only[Option.some.injEq,Prod.mk.injEq]at h;obtain⟨rfl,rfl,rfl,rfl⟩:=h;have y0:w3.cell? ⟨w.heap.size+2,0,none⟩=some (.int .i64 0):=(blk_cell ac.out.hr 0).trans rfl;have y1:w3.cell? ⟨w.heap.size+2,1,none⟩=some (.int .i64 0):=(blk_cell ac.out.hr 1).trans rfl;have y2:w3.cell? ⟨w.heap.size+2,2,none⟩=some (.slice none 0 0):=(blk_cell ac.out.hr 2).trans rfl;have f0:=blk_frozen ac.out.hr 0;have f1:=blk_frozen ac.out.hr 1;have f2:=blk_frozen ac.out.hr 2
  go_wp2_with fail
  refine bodyPost_ret (results_ct rfl _ _ (w.heap.size+2) 24 #[.int .i64 0,.int .i64 0,.slice none 0 0] (0,0) _ rfl (blk_put (cs:= #[.int .i64 0,.int .i64 0,.slice none 0 0]) (blk_put (cs:= #[.int .i64 0,.int .i64 0,.slice none 0 0]) (blk_put (cs:= #[.int .i64 0,.int .i64 0,.slice none 0 0]) ac.out.hr 0 _ rfl) 1 _ rfl) 2 _ rfl) Tryd.underlying24 rfl zb) rfl ?_;refine⟨_,rfl,Kd.R_nil _ _ _ _ _,?_⟩;exact((ac.out.below.setCell zn _).setCell zn _).setCell zn _
 |true=>
  rw[if_pos rfl]at h
  obtain⟨tb,htb,h2⟩:=Option.bind_eq_some_iff.mp h;clear h;have h:=h2;clear h2;have HB:=aK htb;clear htb;have x0:w3.cell? ⟨w.heap.size+1,0,none⟩=some (.int .i64 af):=(blk_cell ac.out.hb 0).trans rfl;have x1:w3.cell? ⟨w.heap.size+1,1,none⟩=some (.int .i64 al):=(blk_cell ac.out.hb 1).trans rfl;have x2:w3.cell? ⟨w.heap.size+1,2,none⟩=some (.slice I G.length J):=(blk_cell ac.out.hb 2).trans rfl
  go_wp2_with fail
  refine(matrix_Right.calls af al I J G tb _ (Kd.C_below au.out ac.out.below) ar.out HB.out).mono ?_;rintro e w4 ⟨rfl,bt⟩;have Y:=aK (ac.out.next bt);clear x0 x1 x2 bt ac
  cases tb with
  |false=>
   simp only[Bool.false_eq_true,if_false]at h;simp only[Option.some.injEq,Prod.mk.injEq]at h;obtain⟨rfl,rfl,rfl,rfl⟩:=h;have y0:w4.cell? ⟨w.heap.size+2,0,none⟩=some (.int .i64 0):=(blk_cell Y.out.hr 0).trans rfl;have y1:w4.cell? ⟨w.heap.size+2,1,none⟩=some (.int .i64 0):=(blk_cell Y.out.hr 1).trans rfl;have y2:w4.cell? ⟨w.heap.size+2,2,none⟩=some (.slice none 0 0):=(blk_cell Y.out.hr 2).trans rfl;have f0:=blk_frozen Y.out.hr 0;have f1:=blk_frozen Y.out.hr 1;have f2:=blk_frozen Y.out.hr 2
   go_wp2_with fail
   refine bodyPost_ret (results_ct rfl _ _ (w.heap.size+2) 24 #[.int .i64 0,.int .i64 0,.slice none 0 0] (0,0) _ rfl (blk_put (cs:= #[.int .i64 0,.int .i64 0,.slice none 0 0]) (blk_put (cs:= #[.int .i64 0,.int .i64 0,.slice none 0 0]) (blk_put (cs:= #[.int .i64 0,.int .i64 0,.slice none 0 0]) Y.out.hr 0 _ rfl) 1 _ rfl) 2 _ rfl) Tryd.underlying24 rfl zb) rfl ?_;refine⟨_,rfl,Kd.R_nil _ _ _ _ _,?_⟩;exact((Y.out.below.setCell zn _).setCell zn _).setCell zn _
  |true=>
   rw[if_pos rfl]at h
   have x0:w4.cell? ⟨w.heap.size+1,0,none⟩=some (.int .i64 af):=(blk_cell Y.out.hb 0).trans rfl;have x1:w4.cell? ⟨w.heap.size+1,1,none⟩=some (.int .i64 al):=(blk_cell Y.out.hb 1).trans rfl;have x2:w4.cell? ⟨w.heap.size+1,2,none⟩=some (.slice I G.length J):=(blk_cell Y.out.hb 2).trans rfl;have z0:w4.cell? ⟨w.heap.size,0,none⟩=some (.int .i64 ak):=(blk_cell Y.out.ha 0).trans rfl;have z1:w4.cell? ⟨w.heap.size,1,none⟩=some (.int .i64 ae):=(blk_cell Y.out.ha 1).trans rfl;have z2:w4.cell? ⟨w.heap.size,2,none⟩=some (.slice U O.length X):=(blk_cell Y.out.ha 2).trans rfl;by_cases hbc:ae=af
   ·rw[if_pos hbc]at h
    subst hbc;by_cases hby:byB O=true∧byB G=true
    ·rw[if_pos hby]at h
     obtain⟨e0,e1,e2,e3,hl⟩:=right_true HA.out;obtain⟨b0,b1,b2,b3,hl'⟩:=right_true HB.out;obtain⟨n,rfl⟩:=Int.eq_ofNat_of_zero_le e0;obtain⟨m,rfl⟩:=Int.eq_ofNat_of_zero_le e2;obtain⟨p,rfl⟩:=Int.eq_ofNat_of_zero_le b2;rw[Int.toNat_natCast,Int.toNat_natCast,Int.toNat_natCast]at h
     rw[Int.toNat_natCast,Int.toNat_natCast]at hl hl'
     simp only[Option.some.injEq,Prod.mk.injEq]at h;obtain⟨rfl,rfl,rfl,rfl⟩:=h;have bv:n≤64:=by omega
     have ag:m≤64:=by omega
     have an:p≤64:=by omega
     have hnp:n*p≤4096:=Nat.mul_le_mul bv an;have hpm:p*m≤4096:=Nat.mul_le_mul an ag;have b4:=aK hl;have a5:=aK hl';have HBY:=aK hby
     have HBL:=aK (blank_some (a:=n) (b:=p) za);clear hl hl' hby e0 e1 e2 e3 b0 b1 b2 b3 HA HB;have hne:((m:Int)!=(m:Int))=false:=by simp
     go_upto_region 3 with(fail)
     clear x0 x1 x2 z0 z1 z2;obtain⟨v4,_⟩: ∃v:Value,v= .int .i64 0:=⟨_,rfl⟩
     obtain⟨v6,_⟩: ∃v:Value,v= .int .i64 0:=⟨_,rfl⟩
     obtain⟨g7,_⟩: ∃g:Nat,g=0:=⟨_,rfl⟩
     obtain⟨g8,_⟩: ∃g:Nat,g=0:=⟨_,rfl⟩
     refine start_ (n:=11) (S:=fun w'=>w'.cell? ⟨w.heap.size,0,none⟩=some (.int .i64 n)∧w'.cell? ⟨w.heap.size+1,0,none⟩=some (.int .i64 m)∧w'.cell? ⟨w.heap.size+1,1,none⟩=some (.int .i64 p)∧w'.cell? ⟨w.heap.size+1,2,none⟩=some (.slice I G.length J)) (ds:= [9,10]) (mB 11 0) zb rfl rfl ⟨(blk_cell Y.out.ha 0).trans rfl,(blk_cell Y.out.hb 0).trans rfl,(blk_cell Y.out.hb 1).trans rfl,(blk_cell Y.out.hb 2).trans rfl⟩ (fun hHeld=>?_);have HN:=aK (MulB.start (Y.out.next (below_drew (Below.refl _ _))) v4 v6 g7 g8);clear Y;generalize w4.drew=W at*;refine zpu 0 (some 26) (mB 11 1) ?_;refine zpu 2 (some 28) (mB 11 5) ?_;refine ztk4 1 (some 27) (mB 11 7) hHeld ?_;refine ztk4 3 (some 29) (mB 11 15) hHeld ?_;refine ztk4 5 (some 31) (mB 11 47) hHeld ?_;refine join_ (σ:=Value×Value×Nat×Nat) 2 (mB 11 511) (fun s=> [(30,.agg #[.int .i64 n,.int .i64 p,s.1]),(32,.agg #[.int .i64 p,.int .i64 m,s.2.1]),(6,.pointer (some ⟨s.2.2.1,0,none⟩)),(7,.pointer (some ⟨s.2.2.2,0,none⟩))]) (fun s w'=>Aside0 (MulB w n m p X J U I O G true true true true s.1 s.2.1 s.2.2.1 s.2.2.2 w')) ?_ ?_;rotate_left
     ·intro ab;refine join_ (σ:=Value×Value×Nat×Nat) 3 (mB 11 255) (fun s=> [(30,.agg #[.int .i64 n,.int .i64 p,s.1]),(32,.agg #[.int .i64 p,.int .i64 m,s.2.1]),(6,.pointer (some ⟨s.2.2.1,0,none⟩))]) (fun s w'=>Aside0 (MulB w n m p X J U I O G true true true false s.1 s.2.1 s.2.2.1 s.2.2.2 w')) ?_ ?_;rotate_left
      ·intro ap;refine join_ (σ:=Value×Value×Nat×Nat) 3 (mB 11 383) (fun s=> [(30,.agg #[.int .i64 n,.int .i64 p,s.1]),(32,.agg #[.int .i64 p,.int .i64 m,s.2.1]),(7,.pointer (some ⟨s.2.2.2,0,none⟩))]) (fun s w'=>Aside0 (MulB w n m p X J U I O G true true false true s.1 s.2.1 s.2.2.1 s.2.2.2 w')) ?_ ?_;rotate_left
       ·intro aq;refine join_ (σ:=Value×Value×Nat×Nat) 3 (mB 11 447) (fun s=> [(30,.agg #[.int .i64 n,.int .i64 p,s.1]),(6,.pointer (some ⟨s.2.2.1,0,none⟩)),(7,.pointer (some ⟨s.2.2.2,0,none⟩))]) (fun s w'=>Aside0 (MulB w n m p X J U I O G true false true true s.1 s.2.1 s.2.2.1 s.2.2.2 w')) ?_ ?_;rotate_left
        ·intro am;refine join_ (σ:=Value×Value×Nat×Nat) 4 (mB 11 127) (fun s=> [(30,.agg #[.int .i64 n,.int .i64 p,s.1]),(32,.agg #[.int .i64 p,.int .i64 m,s.2.1])]) (fun s w'=>Aside0 (MulB w n m p X J U I O G true true false false s.1 s.2.1 s.2.2.1 s.2.2.2 w')) ?_ ?_;rotate_left
         ·intro bb;refine join_ (σ:=Value×Value×Nat×Nat) 4 (mB 11 191) (fun s=> [(30,.agg #[.int .i64 n,.int .i64 p,s.1]),(6,.pointer (some ⟨s.2.2.1,0,none⟩))]) (fun s w'=>Aside0 (MulB w n m p X J U I O G true false true false s.1 s.2.1 s.2.2.1 s.2.2.2 w')) ?_ ?_;rotate_left
          ·intro ax;refine join_ (σ:=Value×Value×Nat×Nat) 4 (mB 11 319) (fun s=> [(30,.agg #[.int .i64 n,.int .i64 p,s.1]),(7,.pointer (some ⟨s.2.2.2,0,none⟩))]) (fun s w'=>Aside0 (MulB w n m p X J U I O G true false false true s.1 s.2.1 s.2.2.1 s.2.2.2 w')) ?_ ?_;rotate_left
           ·intro ay;refine join_ (σ:=Value×Value×Nat×Nat) 4 (mB 11 431) (fun s=> [(6,.pointer (some ⟨s.2.2.1,0,none⟩)),(7,.pointer (some ⟨s.2.2.2,0,none⟩))]) (fun s w'=>Aside0 (MulB w n m p X J U I O G false false true true s.1 s.2.1 s.2.2.1 s.2.2.2 w')) ?_ ?_;rotate_left
            ·intro az;refine join_ (σ:=Value×Value×Nat×Nat) 5 (mB 11 63) (fun s=> [(30,.agg #[.int .i64 n,.int .i64 p,s.1])]) (fun s w'=>Aside0 (MulB w n m p X J U I O G true false false false s.1 s.2.1 s.2.2.1 s.2.2.2 w')) ?_ ?_;rotate_left
             ·intro b7;refine join_ (σ:=Value×Value×Nat×Nat) 5 (mB 11 175) (fun s=> [(6,.pointer (some ⟨s.2.2.1,0,none⟩))]) (fun s w'=>Aside0 (MulB w n m p X J U I O G false false true false s.1 s.2.1 s.2.2.1 s.2.2.2 w')) ?_ ?_;rotate_left
              ·intro b8;refine join_ (σ:=Value×Value×Nat×Nat) 5 (mB 11 303) (fun s=> [(7,.pointer (some ⟨s.2.2.2,0,none⟩))]) (fun s w'=>Aside0 (MulB w n m p X J U I O G false false false true s.1 s.2.1 s.2.2.1 s.2.2.2 w')) ?_ ?_;rotate_left
               ·intro b9;refine three_ (i:=4) (j:=7) (k:=8) (Ni:=some 30) (Nj:=some 6) (Nk:=some 7) (mB 11 63) (mB 11 175) (mB 11 303) rfl rfl rfl rfl rfl rfl zb zc zc zc (fun K hK=>?_) (fun K hK=>?_) (fun K hK=>?_)
                ·skip
                 refine goes_ Tryd.func69 zb rfl #[.int .i64 n,.int .i64 p] ze rfl rfl zg ?_;refine(matrix_blank.calls n p _ _ _ _ HBL.out).mono ?_;rintro e' W1 ⟨vt,rfl,ho,hb⟩;refine⟨_,rfl,?_⟩;have D:=HN.out.blank hb ho;refine hK.out _ _ ⟨(blk_cell D.mm.ha 0).trans rfl,(blk_cell D.mm.hb 0).trans rfl,(blk_cell D.mm.hb 1).trans rfl,(blk_cell D.mm.hb 2).trans rfl⟩ (fun hHeld=>?_);clear hK K;refine znm (some 30) ?_;exact norm_ zh (b7 (vt,v6,g7,g8) _ ⟨D⟩)
                ·skip
                 refine value_ (w1:=?_) (v:=?_) ze rfl ?_ ?_;rotate_left 2
                 ·go_simp;constructor
                  ·rfl
                  ·rfl
                 have D:=HN.out.box7;refine hK.out _ _ ⟨(blk_cell D.mm.ha 0).trans rfl,(blk_cell D.mm.hb 0).trans rfl,(blk_cell D.mm.hb 1).trans rfl,(blk_cell D.mm.hb 2).trans rfl⟩ (fun hHeld=>?_);clear hK K;refine znm (some 6) ?_;exact norm_ zh (b8 (v4,v6,W.heap.size,g8) _ ⟨D⟩)
                ·skip
                 refine value_ (w1:=?_) (v:=?_) ze rfl ?_ ?_;rotate_left 2
                 ·go_simp;constructor
                  ·rfl
                  ·rfl
                 have D:=HN.out.box8;refine hK.out _ _ ⟨(blk_cell D.mm.ha 0).trans rfl,(blk_cell D.mm.hb 0).trans rfl,(blk_cell D.mm.hb 1).trans rfl,(blk_cell D.mm.hb 2).trans rfl⟩ (fun hHeld=>?_);clear hK K;refine znm (some 7) ?_;exact norm_ zh (b9 (v4,v6,g7,W.heap.size) _ ⟨D⟩)
               ·skip
                rintro⟨v4,v6,g7,g8⟩ W HN;have hHeld:W.cell? ⟨w.heap.size,0,none⟩=some (.int .i64 n)∧W.cell? ⟨w.heap.size+1,0,none⟩=some (.int .i64 m)∧W.cell? ⟨w.heap.size+1,1,none⟩=some (.int .i64 p)∧W.cell? ⟨w.heap.size+1,2,none⟩=some (.slice I G.length J):=⟨(blk_cell HN.out.mm.ha 0).trans rfl,(blk_cell HN.out.mm.hb 0).trans rfl,(blk_cell HN.out.mm.hb 1).trans rfl,(blk_cell HN.out.mm.hb 2).trans rfl⟩
                refine znq ?_;refine two_ (i:=4) (j:=7) (Ni:=some 30) (Nj:=some 6) (mB 11 319) (mB 11 431) rfl rfl rfl rfl zb zc zc (fun K hK=>?_) (fun K hK=>?_)
                ·skip
                 refine goes_ Tryd.func69 zb rfl #[.int .i64 n,.int .i64 p] ze rfl rfl zg ?_;refine(matrix_blank.calls n p _ _ _ _ HBL.out).mono ?_;rintro e' W1 ⟨vt,rfl,ho,hb⟩;refine⟨_,rfl,?_⟩;have D:=HN.out.blank hb ho;refine hK.out _ _ ⟨(blk_cell D.mm.ha 0).trans rfl,(blk_cell D.mm.hb 0).trans rfl,(blk_cell D.mm.hb 1).trans rfl,(blk_cell D.mm.hb 2).trans rfl⟩ (fun hHeld=>?_);clear hK K;refine znm (some 30) ?_;exact norm_ zh (ay (vt,v6,g7,g8) _ ⟨D⟩)
                ·skip
                 refine value_ (w1:=?_) (v:=?_) ze rfl ?_ ?_;rotate_left 2
                 ·go_simp;constructor
                  ·rfl
                  ·rfl
                 have D:=HN.out.box7;refine hK.out _ _ ⟨(blk_cell D.mm.ha 0).trans rfl,(blk_cell D.mm.hb 0).trans rfl,(blk_cell D.mm.hb 1).trans rfl,(blk_cell D.mm.hb 2).trans rfl⟩ (fun hHeld=>?_);clear hK K;refine znm (some 6) ?_;exact norm_ zh (az (v4,v6,W.heap.size,g8) _ ⟨D⟩)
              ·skip
               rintro⟨v4,v6,g7,g8⟩ W HN;have hHeld:W.cell? ⟨w.heap.size,0,none⟩=some (.int .i64 n)∧W.cell? ⟨w.heap.size+1,0,none⟩=some (.int .i64 m)∧W.cell? ⟨w.heap.size+1,1,none⟩=some (.int .i64 p)∧W.cell? ⟨w.heap.size+1,2,none⟩=some (.slice I G.length J):=⟨(blk_cell HN.out.mm.ha 0).trans rfl,(blk_cell HN.out.mm.hb 0).trans rfl,(blk_cell HN.out.mm.hb 1).trans rfl,(blk_cell HN.out.mm.hb 2).trans rfl⟩
               refine znq ?_;refine two_ (i:=4) (j:=8) (Ni:=some 30) (Nj:=some 7) (mB 11 191) (mB 11 431) rfl rfl rfl rfl zb zc zc (fun K hK=>?_) (fun K hK=>?_)
               ·skip
                refine goes_ Tryd.func69 zb rfl #[.int .i64 n,.int .i64 p] ze rfl rfl zg ?_;refine(matrix_blank.calls n p _ _ _ _ HBL.out).mono ?_;rintro e' W1 ⟨vt,rfl,ho,hb⟩;refine⟨_,rfl,?_⟩;have D:=HN.out.blank hb ho;refine hK.out _ _ ⟨(blk_cell D.mm.ha 0).trans rfl,(blk_cell D.mm.hb 0).trans rfl,(blk_cell D.mm.hb 1).trans rfl,(blk_cell D.mm.hb 2).trans rfl⟩ (fun hHeld=>?_);clear hK K;refine znm (some 30) ?_;exact norm_ zh (ax (vt,v6,g7,g8) _ ⟨D⟩)
               ·skip
                refine value_ (w1:=?_) (v:=?_) ze rfl ?_ ?_;rotate_left 2
                ·go_simp;constructor
                 ·rfl
                 ·rfl
                have D:=HN.out.box8;refine hK.out _ _ ⟨(blk_cell D.mm.ha 0).trans rfl,(blk_cell D.mm.hb 0).trans rfl,(blk_cell D.mm.hb 1).trans rfl,(blk_cell D.mm.hb 2).trans rfl⟩ (fun hHeld=>?_);clear hK K;refine znm (some 7) ?_;exact norm_ zh (az (v4,v6,g7,W.heap.size) _ ⟨D⟩)
             ·skip
              rintro⟨v4,v6,g7,g8⟩ W HN;have hHeld:W.cell? ⟨w.heap.size,0,none⟩=some (.int .i64 n)∧W.cell? ⟨w.heap.size+1,0,none⟩=some (.int .i64 m)∧W.cell? ⟨w.heap.size+1,1,none⟩=some (.int .i64 p)∧W.cell? ⟨w.heap.size+1,2,none⟩=some (.slice I G.length J):=⟨(blk_cell HN.out.mm.ha 0).trans rfl,(blk_cell HN.out.mm.hb 0).trans rfl,(blk_cell HN.out.mm.hb 1).trans rfl,(blk_cell HN.out.mm.hb 2).trans rfl⟩
              refine znq ?_;refine three_ (i:=6) (j:=7) (k:=8) (Ni:=some 32) (Nj:=some 6) (Nk:=some 7) (mB 11 127) (mB 11 191) (mB 11 319) rfl rfl rfl rfl rfl rfl zb zc zc zc (fun K hK=>?_) (fun K hK=>?_) (fun K hK=>?_)
              ·skip
               refine goes_ Tryd.func72 zb rfl #[.agg #[.int .i64 m,.int .i64 p,.slice I G.length J]] ze rfl rfl zg ?_;refine(matrix_turned.calls m p I J G _ (Kd.C_below au.out HN.out.mm.below) ar.out a5.out ⟨ag,an⟩).mono ?_;rintro e' W1 ⟨vt,rfl,hq⟩;refine⟨_,rfl,?_⟩;have D:=HN.out.turned hq.out.2 hq.out.1;refine hK.out _ _ ⟨(blk_cell D.mm.ha 0).trans rfl,(blk_cell D.mm.hb 0).trans rfl,(blk_cell D.mm.hb 1).trans rfl,(blk_cell D.mm.hb 2).trans rfl⟩ (fun hHeld=>?_);clear hK K;refine znm (some 32) ?_;exact norm_ zh (bb (v4,vt,g7,g8) _ ⟨D⟩)
              ·skip
               refine value_ (w1:=?_) (v:=?_) ze rfl ?_ ?_;rotate_left 2
               ·go_simp;constructor
                ·rfl
                ·rfl
               have D:=HN.out.box7;refine hK.out _ _ ⟨(blk_cell D.mm.ha 0).trans rfl,(blk_cell D.mm.hb 0).trans rfl,(blk_cell D.mm.hb 1).trans rfl,(blk_cell D.mm.hb 2).trans rfl⟩ (fun hHeld=>?_);clear hK K;refine znm (some 6) ?_;exact norm_ zh (ax (v4,v6,W.heap.size,g8) _ ⟨D⟩)
              ·skip
               refine value_ (w1:=?_) (v:=?_) ze rfl ?_ ?_;rotate_left 2
               ·go_simp;constructor
                ·rfl
                ·rfl
               have D:=HN.out.box8;refine hK.out _ _ ⟨(blk_cell D.mm.ha 0).trans rfl,(blk_cell D.mm.hb 0).trans rfl,(blk_cell D.mm.hb 1).trans rfl,(blk_cell D.mm.hb 2).trans rfl⟩ (fun hHeld=>?_);clear hK K;refine znm (some 7) ?_;exact norm_ zh (ay (v4,v6,g7,W.heap.size) _ ⟨D⟩)
            ·skip
             rintro⟨v4,v6,g7,g8⟩ W HN;have hHeld:W.cell? ⟨w.heap.size,0,none⟩=some (.int .i64 n)∧W.cell? ⟨w.heap.size+1,0,none⟩=some (.int .i64 m)∧W.cell? ⟨w.heap.size+1,1,none⟩=some (.int .i64 p)∧W.cell? ⟨w.heap.size+1,2,none⟩=some (.slice I G.length J):=⟨(blk_cell HN.out.mm.ha 0).trans rfl,(blk_cell HN.out.mm.hb 0).trans rfl,(blk_cell HN.out.mm.hb 1).trans rfl,(blk_cell HN.out.mm.hb 2).trans rfl⟩
             refine znq ?_;refine zon 4 (some 30) (mB 11 447) fun K hK=>?_;refine goes_ Tryd.func69 zb rfl #[.int .i64 n,.int .i64 p] ze rfl rfl zg ?_;refine(matrix_blank.calls n p _ _ _ _ HBL.out).mono ?_;rintro e' W1 ⟨vt,rfl,ho,hb⟩;refine⟨_,rfl,?_⟩;have D:=HN.out.blank hb ho;refine hK.out _ _ ⟨(blk_cell D.mm.ha 0).trans rfl,(blk_cell D.mm.hb 0).trans rfl,(blk_cell D.mm.hb 1).trans rfl,(blk_cell D.mm.hb 2).trans rfl⟩ (fun hHeld=>?_);clear hK K;refine znm (some 30) ?_;exact norm_ zh (am (vt,v6,g7,g8) _ ⟨D⟩)
           ·skip
            rintro⟨v4,v6,g7,g8⟩ W HN;have hHeld:W.cell? ⟨w.heap.size,0,none⟩=some (.int .i64 n)∧W.cell? ⟨w.heap.size+1,0,none⟩=some (.int .i64 m)∧W.cell? ⟨w.heap.size+1,1,none⟩=some (.int .i64 p)∧W.cell? ⟨w.heap.size+1,2,none⟩=some (.slice I G.length J):=⟨(blk_cell HN.out.mm.ha 0).trans rfl,(blk_cell HN.out.mm.hb 0).trans rfl,(blk_cell HN.out.mm.hb 1).trans rfl,(blk_cell HN.out.mm.hb 2).trans rfl⟩
            refine znq ?_;refine two_ (i:=6) (j:=7) (Ni:=some 32) (Nj:=some 6) (mB 11 383) (mB 11 447) rfl rfl rfl rfl zb zc zc (fun K hK=>?_) (fun K hK=>?_)
            ·skip
             refine goes_ Tryd.func72 zb rfl #[.agg #[.int .i64 m,.int .i64 p,.slice I G.length J]] ze rfl rfl zg ?_;refine(matrix_turned.calls m p I J G _ (Kd.C_below au.out HN.out.mm.below) ar.out a5.out ⟨ag,an⟩).mono ?_;rintro e' W1 ⟨vt,rfl,hq⟩;refine⟨_,rfl,?_⟩;have D:=HN.out.turned hq.out.2 hq.out.1;refine hK.out _ _ ⟨(blk_cell D.mm.ha 0).trans rfl,(blk_cell D.mm.hb 0).trans rfl,(blk_cell D.mm.hb 1).trans rfl,(blk_cell D.mm.hb 2).trans rfl⟩ (fun hHeld=>?_);clear hK K;refine znm (some 32) ?_;exact norm_ zh (aq (v4,vt,g7,g8) _ ⟨D⟩)
            ·skip
             refine value_ (w1:=?_) (v:=?_) ze rfl ?_ ?_;rotate_left 2
             ·go_simp;constructor
              ·rfl
              ·rfl
             have D:=HN.out.box7;refine hK.out _ _ ⟨(blk_cell D.mm.ha 0).trans rfl,(blk_cell D.mm.hb 0).trans rfl,(blk_cell D.mm.hb 1).trans rfl,(blk_cell D.mm.hb 2).trans rfl⟩ (fun hHeld=>?_);clear hK K;refine znm (some 6) ?_;exact norm_ zh (am (v4,v6,W.heap.size,g8) _ ⟨D⟩)
          ·skip
           rintro⟨v4,v6,g7,g8⟩ W HN;have hHeld:W.cell? ⟨w.heap.size,0,none⟩=some (.int .i64 n)∧W.cell? ⟨w.heap.size+1,0,none⟩=some (.int .i64 m)∧W.cell? ⟨w.heap.size+1,1,none⟩=some (.int .i64 p)∧W.cell? ⟨w.heap.size+1,2,none⟩=some (.slice I G.length J):=⟨(blk_cell HN.out.mm.ha 0).trans rfl,(blk_cell HN.out.mm.hb 0).trans rfl,(blk_cell HN.out.mm.hb 1).trans rfl,(blk_cell HN.out.mm.hb 2).trans rfl⟩
           refine znq ?_;refine two_ (i:=6) (j:=8) (Ni:=some 32) (Nj:=some 7) (mB 11 255) (mB 11 447) rfl rfl rfl rfl zb zc zc (fun K hK=>?_) (fun K hK=>?_)
           ·skip
            refine goes_ Tryd.func72 zb rfl #[.agg #[.int .i64 m,.int .i64 p,.slice I G.length J]] ze rfl rfl zg ?_;refine(matrix_turned.calls m p I J G _ (Kd.C_below au.out HN.out.mm.below) ar.out a5.out ⟨ag,an⟩).mono ?_;rintro e' W1 ⟨vt,rfl,hq⟩;refine⟨_,rfl,?_⟩;have D:=HN.out.turned hq.out.2 hq.out.1;refine hK.out _ _ ⟨(blk_cell D.mm.ha 0).trans rfl,(blk_cell D.mm.hb 0).trans rfl,(blk_cell D.mm.hb 1).trans rfl,(blk_cell D.mm.hb 2).trans rfl⟩ (fun hHeld=>?_);clear hK K;refine znm (some 32) ?_;exact norm_ zh (ap (v4,vt,g7,g8) _ ⟨D⟩)
           ·skip
            refine value_ (w1:=?_) (v:=?_) ze rfl ?_ ?_;rotate_left 2
            ·go_simp;constructor
             ·rfl
             ·rfl
            have D:=HN.out.box8;refine hK.out _ _ ⟨(blk_cell D.mm.ha 0).trans rfl,(blk_cell D.mm.hb 0).trans rfl,(blk_cell D.mm.hb 1).trans rfl,(blk_cell D.mm.hb 2).trans rfl⟩ (fun hHeld=>?_);clear hK K;refine znm (some 7) ?_;exact norm_ zh (am (v4,v6,g7,W.heap.size) _ ⟨D⟩)
         ·skip
          rintro⟨v4,v6,g7,g8⟩ W HN;have hHeld:W.cell? ⟨w.heap.size,0,none⟩=some (.int .i64 n)∧W.cell? ⟨w.heap.size+1,0,none⟩=some (.int .i64 m)∧W.cell? ⟨w.heap.size+1,1,none⟩=some (.int .i64 p)∧W.cell? ⟨w.heap.size+1,2,none⟩=some (.slice I G.length J):=⟨(blk_cell HN.out.mm.ha 0).trans rfl,(blk_cell HN.out.mm.hb 0).trans rfl,(blk_cell HN.out.mm.hb 1).trans rfl,(blk_cell HN.out.mm.hb 2).trans rfl⟩
          refine znq ?_;refine two_ (i:=7) (j:=8) (Ni:=some 6) (Nj:=some 7) (mB 11 255) (mB 11 383) rfl rfl rfl rfl zb zc zc (fun K hK=>?_) (fun K hK=>?_)
          ·skip
           refine value_ (w1:=?_) (v:=?_) ze rfl ?_ ?_;rotate_left 2
           ·go_simp;constructor
            ·rfl
            ·rfl
           have D:=HN.out.box7;refine hK.out _ _ ⟨(blk_cell D.mm.ha 0).trans rfl,(blk_cell D.mm.hb 0).trans rfl,(blk_cell D.mm.hb 1).trans rfl,(blk_cell D.mm.hb 2).trans rfl⟩ (fun hHeld=>?_);clear hK K;refine znm (some 6) ?_;exact norm_ zh (ap (v4,v6,W.heap.size,g8) _ ⟨D⟩)
          ·skip
           refine value_ (w1:=?_) (v:=?_) ze rfl ?_ ?_;rotate_left 2
           ·go_simp;constructor
            ·rfl
            ·rfl
           have D:=HN.out.box8;refine hK.out _ _ ⟨(blk_cell D.mm.ha 0).trans rfl,(blk_cell D.mm.hb 0).trans rfl,(blk_cell D.mm.hb 1).trans rfl,(blk_cell D.mm.hb 2).trans rfl⟩ (fun hHeld=>?_);clear hK K;refine znm (some 7) ?_;exact norm_ zh (aq (v4,v6,g7,W.heap.size) _ ⟨D⟩)
        ·skip
         rintro⟨v4,v6,g7,g8⟩ W HN;have hHeld:W.cell? ⟨w.heap.size,0,none⟩=some (.int .i64 n)∧W.cell? ⟨w.heap.size+1,0,none⟩=some (.int .i64 m)∧W.cell? ⟨w.heap.size+1,1,none⟩=some (.int .i64 p)∧W.cell? ⟨w.heap.size+1,2,none⟩=some (.slice I G.length J):=⟨(blk_cell HN.out.mm.ha 0).trans rfl,(blk_cell HN.out.mm.hb 0).trans rfl,(blk_cell HN.out.mm.hb 1).trans rfl,(blk_cell HN.out.mm.hb 2).trans rfl⟩
         refine znq ?_;refine zon 6 (some 32) (mB 11 511) fun K hK=>?_;refine goes_ Tryd.func72 zb rfl #[.agg #[.int .i64 m,.int .i64 p,.slice I G.length J]] ze rfl rfl zg ?_;refine(matrix_turned.calls m p I J G _ (Kd.C_below au.out HN.out.mm.below) ar.out a5.out ⟨ag,an⟩).mono ?_;rintro e' W1 ⟨vt,rfl,hq⟩;refine⟨_,rfl,?_⟩;have D:=HN.out.turned hq.out.2 hq.out.1;refine hK.out _ _ ⟨(blk_cell D.mm.ha 0).trans rfl,(blk_cell D.mm.hb 0).trans rfl,(blk_cell D.mm.hb 1).trans rfl,(blk_cell D.mm.hb 2).trans rfl⟩ (fun hHeld=>?_);clear hK K;refine znm (some 32) ?_;exact norm_ zh (ab (v4,vt,g7,g8) _ ⟨D⟩)
       ·skip
        rintro⟨v4,v6,g7,g8⟩ W HN;have hHeld:W.cell? ⟨w.heap.size,0,none⟩=some (.int .i64 n)∧W.cell? ⟨w.heap.size+1,0,none⟩=some (.int .i64 m)∧W.cell? ⟨w.heap.size+1,1,none⟩=some (.int .i64 p)∧W.cell? ⟨w.heap.size+1,2,none⟩=some (.slice I G.length J):=⟨(blk_cell HN.out.mm.ha 0).trans rfl,(blk_cell HN.out.mm.hb 0).trans rfl,(blk_cell HN.out.mm.hb 1).trans rfl,(blk_cell HN.out.mm.hb 2).trans rfl⟩
        refine znq ?_;refine zon 7 (some 6) (mB 11 511) fun K hK=>?_;refine value_ (w1:=?_) (v:=?_) ze rfl ?_ ?_;rotate_left 2
        ·go_simp;constructor
         ·rfl
         ·rfl
        have D:=HN.out.box7;refine hK.out _ _ ⟨(blk_cell D.mm.ha 0).trans rfl,(blk_cell D.mm.hb 0).trans rfl,(blk_cell D.mm.hb 1).trans rfl,(blk_cell D.mm.hb 2).trans rfl⟩ (fun hHeld=>?_);clear hK K;refine znm (some 6) ?_;exact norm_ zh (ab (v4,v6,W.heap.size,g8) _ ⟨D⟩)
      ·skip
       rintro⟨v4,v6,g7,g8⟩ W HN;have hHeld:W.cell? ⟨w.heap.size,0,none⟩=some (.int .i64 n)∧W.cell? ⟨w.heap.size+1,0,none⟩=some (.int .i64 m)∧W.cell? ⟨w.heap.size+1,1,none⟩=some (.int .i64 p)∧W.cell? ⟨w.heap.size+1,2,none⟩=some (.slice I G.length J):=⟨(blk_cell HN.out.mm.ha 0).trans rfl,(blk_cell HN.out.mm.hb 0).trans rfl,(blk_cell HN.out.mm.hb 1).trans rfl,(blk_cell HN.out.mm.hb 2).trans rfl⟩
       refine znq ?_;refine zon 8 (some 7) (mB 11 511) fun K hK=>?_;refine value_ (w1:=?_) (v:=?_) ze rfl ?_ ?_;rotate_left 2
       ·go_simp;constructor
        ·rfl
        ·rfl
       have D:=HN.out.box8;refine hK.out _ _ ⟨(blk_cell D.mm.ha 0).trans rfl,(blk_cell D.mm.hb 0).trans rfl,(blk_cell D.mm.hb 1).trans rfl,(blk_cell D.mm.hb 2).trans rfl⟩ (fun hHeld=>?_);clear hK K;refine znm (some 7) ?_;exact norm_ zh (ab (v4,v6,g7,W.heap.size) _ ⟨D⟩)
     rintro⟨v4,v6,g7,g8⟩ W HN;have hHeld:W.cell? ⟨w.heap.size,0,none⟩=some (.int .i64 n)∧W.cell? ⟨w.heap.size+1,0,none⟩=some (.int .i64 m)∧W.cell? ⟨w.heap.size+1,1,none⟩=some (.int .i64 p)∧W.cell? ⟨w.heap.size+1,2,none⟩=some (.slice I G.length J):=⟨(blk_cell HN.out.mm.ha 0).trans rfl,(blk_cell HN.out.mm.hb 0).trans rfl,(blk_cell HN.out.mm.hb 1).trans rfl,(blk_cell HN.out.mm.hb 2).trans rfl⟩
     refine znq ?_;refine zln 9 (none) (mB 11 1023) fun K hK=>?_;obtain⟨A4,c4,e4⟩:=Kd.R_slice (HN.out.h4 rfl);rw[List.length_replicate]at e4
     obtain⟨N4,bc⟩: ∃N,N=n*p:=⟨_,rfl⟩
     rw[←bc]at e4
     obtain⟨A6,c6,e6⟩:=Kd.R_slice (HN.out.h6 rfl);obtain⟨N6,bd⟩: ∃N,N=(transL m p G).length:=⟨_,rfl⟩
     rw[←bd]at e6
     subst e4 e6;have b5:=aK bc;have b6:=aK bd;clear bc bd;have p0:=(blk_cell (HN.out.h7 rfl).1 0).trans rfl;have p1:=(blk_cell (HN.out.h7 rfl).1 1).trans rfl;have p2:=(blk_cell (HN.out.h7 rfl).1 2).trans rfl;have f0:=blk_frozen (HN.out.h7 rfl).1 0;have f1:=blk_frozen (HN.out.h7 rfl).1 1;have f2:=blk_frozen (HN.out.h7 rfl).1 2;refine zsk ?_;obtain⟨W9,be⟩: ∃W9,W9=((W.setCell ⟨g7,0,none⟩ (.int .i64 n)).setCell ⟨g7,1,none⟩ (.int .i64 p)).setCell ⟨g7,2,none⟩ (.slice A4 N4 c4):=⟨_,rfl⟩
     rw[←be];obtain⟨h8,HS⟩:=HN.out.stored W9 be;clear be p0 p1 p2 f0 f1 f2;refine hK.out _ _ ?_;clear hK K;refine zln 10 (none) (mB 11 2047) fun K hK=>?_;have p0:=(blk_cell h8 0).trans rfl;have p1:=(blk_cell h8 1).trans rfl;have p2:=(blk_cell h8 2).trans rfl;have f0:=blk_frozen h8 0;have f1:=blk_frozen h8 1;have f2:=blk_frozen h8 2;refine zsk ?_;obtain⟨aw,a0⟩: ∃aw,aw=((W9.setCell ⟨g8,0,none⟩ (.int .i64 p)).setCell ⟨g8,1,none⟩ (.int .i64 m)).setCell ⟨g8,2,none⟩ (.slice A6 N6 c6):=⟨_,rfl⟩
     rw[←a0];have bp:=aK (HS aw a0);clear a0 p0 p1 p2 f0 f1 f2;refine hK.out _ _ ?_;clear hK K;refine done_ zb ?_;clear hHeld h8 HS;have HST:Aside0 (MulC w n m p X J g7 g8 U I O G (.slice A4 N4 c4) (.slice A6 N6 c6) (midM n m p O G 0 0) aw):=by
      rw[midM_zero];exact bp
     clear bp HN;have x0:aw.cell? ⟨g7,0,none⟩=some (.int .i64 n):=(blk_cell HST.out.h7 0).trans rfl
     go_wp2_with fail
     clear x0
     go_loopg [35] n (fun kq ce wr=> ∃(i:Nat),ce= .int .i64 i∧i≤n∧Aside0 (kq+i=n)∧Aside0 (MulC w n m p X J g7 g8 U I O G (.slice A4 N4 c4) (.slice A6 N6 c6) (midM n m p O G i 0) wr))
     case atStart=>exact⟨0,rfl,Nat.zero_le _,⟨by omega⟩,HST⟩
     case round=>
      obtain⟨i,rfl,hi,HK,HO⟩:=hrel;clear HST;by_cases hlt:i<n
      ·have tst:decide ((i:Int)<(n:Int))=true:=by simpa using hlt
       have x1:wr.cell? ⟨g7,1,none⟩=some (.int .i64 p):=(blk_cell HO.out.h7 1).trans rfl
       go_wp2_with fail
       clear x1
       go_loopg [40] p (fun kq cf w5=> ∃(j:Nat),cf= .int .i64 j∧j≤p∧Aside0 (kq+j=p)∧Aside0 (MulC w n m p X J g7 g8 U I O G (.slice A4 N4 c4) (.slice A6 N6 c6) (midM n m p O G i j) w5))
       case atStart=>exact⟨0,rfl,Nat.zero_le _,⟨by omega⟩,HO⟩
       case round=>
        obtain⟨j,rfl,hj,bz,Z⟩:=hrel;clear HO;by_cases hjl:j<p
        ·have ch:decide ((j:Int)<(p:Int))=true:=by simpa using hjl
         go_wp2_with fail
         obtain⟨xb,hxb⟩:=R_head Z.out.d4 (by rw[midM_length];exact Nat.mul_pos za za);subst hxb;have bj:(i+1)*m≤O.length:=by
          rw[b4.out];exact Nat.mul_le_mul_right _ hlt
         have bk:(j+1)*m≤(transL m p G).length:=by
          rw[transL_len];exact Nat.mul_le_mul_right _ hjl
         have bw:(i+1)*p≤n*p:=Nat.mul_le_mul_right _ hlt;have ca:(i+1)*p=i*p+p:=by rw[Nat.add_mul,Nat.one_mul]
         obtain⟨bg,bh⟩:=R_elt Z.out.d4 (i:=i*p+j) (by rw[midM_length];omega);have HXA:=aK (row_reads (Kd.C_below bo.out Z.out.mm.below) bj);have bl:=Kd.R_reads' Z.out.d6;have HXT:=aK (row_reads bl.2.2 bk);have bx:=Kd.R_reads' Z.out.d4;have HSTP:=aK (midM_step (n:=n) (m:=m) (p:=p) (l1:=O) (l2:=G) hlt hjl);have av:=fun W=>matrix_row.calls (n:Int) p i N4 c4 (i*p) ((i+1)*p) (some ⟨xb,0,none⟩) W rfl rfl (Nat.le_trans (by rw[b5.out];exact bw) bx.2.1) za an;have a9:=fun W=>matrix_row.calls (n:Int) m i O.length X (i*m) ((i+1)*m) U W rfl rfl (Nat.le_trans bj bn.out) za ag;have ba:=fun W=>matrix_row.calls (p:Int) m j N6 c6 (j*m) ((j+1)*m) A6 W rfl rfl (Nat.le_trans (by rw[b6.out];exact bk) bl.2.1) za ag;rw[if_neg za]at av
         simp only[Option.map_some]at av;have bf:((⟨xb,0,none⟩:Addr).add (i*p)).add j=⟨xb,i*p+j,none⟩:=by
          unfold Addr.add;by_cases a:i*p=0<;>by_cases b:j=0<;>simp[a,b]
         obtain⟨RA,hRA⟩: ∃R,R=(if(i+1)*m=i*m then U else U.map (·.add (i*m))):=⟨_,rfl⟩
         obtain⟨RT,hRT⟩: ∃R,R=(if(j+1)*m=j*m then A6 else A6.map (·.add (j*m))):=⟨_,rfl⟩
         rw[←hRA]at HXA a9
         rw[←hRT]at HXT ba
         obtain⟨x,hx⟩: ∃x,x=dotF (rowF O m i) (rowF (transL m p G) m j) m:=⟨_,rfl⟩
         have HDOT:Aside0 (∀W,Below wr.heap.size wr W→Calls Tryd.prog 73 #[.slice RA m m,.slice RT m m] W fun e W'=>e= .returned (.tuple #[.int .u8 x,.int .i64 0])∧Below W.heap.size W W'):=by
          rw[hx];exact⟨fun W hb=>field_Dot.row m RA RT m m _ _ W ag (fun q _=>byB_getD HBY.out.1 _) (fun q _=>transL_byte HBY.out.2 _) (reads_below hb HXA.out) (reads_below hb HXT.out)⟩
         rw[←hx]at HSTP
         obtain⟨e,he⟩: ∃e:Nat,e=i*p:=⟨_,rfl⟩
         rw[←he]at bg bh HSTP av bf
         have a6:=aK av;have a7:=aK a9;have a8:=aK ba;clear av a9 ba bx bl HXA HXT hRA hRT hx bj bk bw ca he;have p0:(0:Int)≤(i:Int):=by omega
         have p1:(i:Int)<(n:Int):=by omega
         have p2:(0:Int)≤(j:Int):=by omega
         have p3:(j:Int)<(p:Int):=by omega
         refine start_ (n:=16) (S:=fun w'=>w'.cell? ⟨g7,0,none⟩=some (.int .i64 n)∧w'.cell? ⟨g7,1,none⟩=some (.int .i64 p)∧w'.cell? ⟨g7,2,none⟩=some (.slice (some ⟨xb,0,none⟩) N4 c4)∧w'.cell? ⟨w.heap.size,0,none⟩=some (.int .i64 n)∧w'.cell? ⟨w.heap.size,1,none⟩=some (.int .i64 m)∧w'.cell? ⟨w.heap.size,2,none⟩=some (.slice U O.length X)∧w'.cell? ⟨g8,0,none⟩=some (.int .i64 p)∧w'.cell? ⟨g8,1,none⟩=some (.int .i64 m)∧w'.cell? ⟨g8,2,none⟩=some (.slice A6 N6 c6)) (ds:= [15]) (mB 16 0) zb rfl rfl ⟨(blk_cell Z.out.h7 0).trans rfl,(blk_cell Z.out.h7 1).trans rfl,(blk_cell Z.out.h7 2).trans rfl,(blk_cell Z.out.mm.ha 0).trans rfl,(blk_cell Z.out.mm.ha 1).trans rfl,(blk_cell Z.out.mm.ha 2).trans rfl,(blk_cell Z.out.h8 0).trans rfl,(blk_cell Z.out.h8 1).trans rfl,(blk_cell Z.out.h8 2).trans rfl⟩ (fun hHeld=>?_);have bq:=aK (Z.out.next (below_drew (Below.refl _ _)));have bm:Aside0 (Below wr.heap.size wr wr.drew):=⟨below_drew (Below.refl _ _)⟩
         have bi:wr.drew.cell? ⟨xb,e+j,none⟩=_:=bg;have bu:wr.drew.frozen? ⟨xb,e+j,none⟩=false:=bh;clear Z bg bh;generalize wr.drew=w6 at*;refine zpu 1 (some 45) (mB 16 2) ?_;refine zpu 3 (some 47) (mB 16 10) ?_;refine zpu 5 (some 49) (mB 16 42) ?_;refine zpu 8 (some 52) (mB 16 298) ?_;refine ztk9 0 (some 44) (mB 16 299) hHeld ?_;refine ztk9 4 (some 48) (mB 16 315) hHeld ?_;refine ztk9 7 (some 51) (mB 16 443) hHeld ?_;refine zon 2 (some 46) (mB 16 447) fun K hK=>?_;refine goes_ Tryd.func70 zb rfl #[.agg #[.int .i64 n,.int .i64 p,.slice (some ⟨xb,0,none⟩) N4 c4],.int .i64 i] ze rfl rfl zg ?_;refine(a6.out _).mono ?_;rintro e' w7 ⟨rfl,ah⟩;refine⟨_,rfl,?_⟩;refine hK.out _ _ ⟨pw_cell_below ah hHeld.1,pw_cell_below ah hHeld.2.1,pw_cell_below ah hHeld.2.2.1,pw_cell_below ah hHeld.2.2.2.1,pw_cell_below ah hHeld.2.2.2.2.1,pw_cell_below ah hHeld.2.2.2.2.2.1,pw_cell_below ah hHeld.2.2.2.2.2.2.1,pw_cell_below ah hHeld.2.2.2.2.2.2.2.1,pw_cell_below ah hHeld.2.2.2.2.2.2.2.2⟩ (fun hHeld=>?_);clear hK K;refine znm (some 46) ?_;refine zon 6 (some 50) (mB 16 511) fun K hK=>?_;refine goes_ Tryd.func70 zb rfl #[.agg #[.int .i64 n,.int .i64 m,.slice U O.length X],.int .i64 i] ze rfl rfl zg ?_;refine(a7.out _).mono ?_;rintro e' w8 ⟨rfl,ai⟩;refine⟨_,rfl,?_⟩;refine hK.out _ _ ⟨pw_cell_below ai hHeld.1,pw_cell_below ai hHeld.2.1,pw_cell_below ai hHeld.2.2.1,pw_cell_below ai hHeld.2.2.2.1,pw_cell_below ai hHeld.2.2.2.2.1,pw_cell_below ai hHeld.2.2.2.2.2.1,pw_cell_below ai hHeld.2.2.2.2.2.2.1,pw_cell_below ai hHeld.2.2.2.2.2.2.2.1,pw_cell_below ai hHeld.2.2.2.2.2.2.2.2⟩ (fun hHeld=>?_);clear hK K;refine znm (some 50) ?_;refine zon 9 (some 53) (mB 16 1023) fun K hK=>?_;refine goes_ Tryd.func70 zb rfl #[.agg #[.int .i64 p,.int .i64 m,.slice A6 N6 c6],.int .i64 j] ze rfl rfl zg ?_;refine(a8.out _).mono ?_;rintro e' w9 ⟨rfl,aj⟩;refine⟨_,rfl,?_⟩;refine hK.out _ _ ⟨pw_cell_below aj hHeld.1,pw_cell_below aj hHeld.2.1,pw_cell_below aj hHeld.2.2.1,pw_cell_below aj hHeld.2.2.2.1,pw_cell_below aj hHeld.2.2.2.2.1,pw_cell_below aj hHeld.2.2.2.2.2.1,pw_cell_below aj hHeld.2.2.2.2.2.2.1,pw_cell_below aj hHeld.2.2.2.2.2.2.2.1,pw_cell_below aj hHeld.2.2.2.2.2.2.2.2⟩ (fun hHeld=>?_);clear hK K;refine znm (some 53) ?_;refine zon 10 (some 54) (mB 16 2047) fun K hK=>?_;refine goes_ Tryd.func73 zb rfl #[.slice RA m m,.slice RT m m] ze rfl rfl zg ?_;refine(HDOT.out _ (below_step (below_step (below_step bm.out ah) ai) aj)).mono ?_;rintro e' ci ⟨rfl,aa⟩;refine⟨_,rfl,?_⟩;have ao:=below_step (below_step (below_step ah ai) aj) aa;have cb:=pw_cell_below ao bi;have cd:=(below_frozen ao (p:=⟨xb,e+j,none⟩) (World.block_lt_of_cell? _ _ bi)).trans bu;refine hK.out _ _ ⟨pw_cell_below aa hHeld.1,pw_cell_below aa hHeld.2.1,pw_cell_below aa hHeld.2.2.1,pw_cell_below aa hHeld.2.2.2.1,pw_cell_below aa hHeld.2.2.2.2.1,pw_cell_below aa hHeld.2.2.2.2.2.1,pw_cell_below aa hHeld.2.2.2.2.2.2.1,pw_cell_below aa hHeld.2.2.2.2.2.2.2.1,pw_cell_below aa hHeld.2.2.2.2.2.2.2.2⟩ (fun hHeld=>?_);clear hK K;refine znm (some 54) ?_;refine zpu 11 (some 43) (mB 16 4095) ?_;refine zpu 12 (some 55) (mB 16 8191) ?_;refine zpu 13 (some 56) (mB 16 16383) ?_;refine zpu 14 (some 57) (mB 16 32767) ?_;refine zln 15 (none) (mB 16 65535) fun K hK=>?_;refine zsk ?_;refine hK.out _ _ ?_;clear hK K;refine done_ zb ?_;clear hHeld;have br:=aK ((bq.out.next ao).put (e+j) x);rw[HSTP.out]at br
         clear bq ao ah ai aj aa bi bu cb cd bm HDOT a6 a7 a8
         go_wp2_with fail
         go_roundg (p-(j+1))
         case measure=>have:=bz.out;omega
         case rel=>exact⟨j+1,by go_num,by omega,⟨by omega⟩,br⟩
        ·obtain rfl:j=p:=by omega
         go_wp2_with fail
         go_roundg (n-(i+1))
         case measure=>have:=HK.out;omega
         case rel=>exact⟨i+1,by go_num,by omega,⟨by omega⟩,⟨by rw[←midM_row];exact Z.out⟩⟩
      ·obtain rfl:i=n:=by omega
       have s0:wr.cell? ⟨g7,0,none⟩=some (.int .i64 i):=(blk_cell HO.out.h7 0).trans rfl;have s1:wr.cell? ⟨g7,1,none⟩=some (.int .i64 p):=(blk_cell HO.out.h7 1).trans rfl;have s2:wr.cell? ⟨g7,2,none⟩=some (.slice A4 N4 c4):=(blk_cell HO.out.h7 2).trans rfl;have y0:wr.cell? ⟨w.heap.size+2,0,none⟩=some (.int .i64 0):=(blk_cell HO.out.mm.hr 0).trans rfl;have y1:wr.cell? ⟨w.heap.size+2,1,none⟩=some (.int .i64 0):=(blk_cell HO.out.mm.hr 1).trans rfl;have y2:wr.cell? ⟨w.heap.size+2,2,none⟩=some (.slice none 0 0):=(blk_cell HO.out.mm.hr 2).trans rfl;have f0:=blk_frozen HO.out.mm.hr 0;have f1:=blk_frozen HO.out.mm.hr 1;have f2:=blk_frozen HO.out.mm.hr 2
       go_wp2_with fail
       refine bodyPost_ret (results_ct rfl _ _ (w.heap.size+2) 24 #[.int .i64 i,.int .i64 p,.slice A4 N4 c4] (0,0) _ rfl (blk_put (cs:= #[.int .i64 i,.int .i64 p,.slice none 0 0]) (blk_put (cs:= #[.int .i64 i,.int .i64 0,.slice none 0 0]) (blk_put (cs:= #[.int .i64 0,.int .i64 0,.slice none 0 0]) HO.out.mm.hr 0 _ rfl) 1 _ rfl) 2 _ rfl) Tryd.underlying24 rfl zb) rfl ?_;refine⟨_,rfl,?_,?_⟩
       ·rw[←midM_all];have h1:=Kd.R_types HO.out.d4 HO.out.mm.hr (fun q hq=>by obtain rfl:q=5:=(List.mem_cons.1 hq).elim id (fun hx=>by cases hx);decide);exact Kd.R_mono (Kd.R_far (Kd.R_far (Kd.R_far h1 (p:=⟨w.heap.size+2,0,none⟩) (fun k hk=>hk.2) _) (p:=⟨w.heap.size+2,1,none⟩) (fun k hk=>hk.2) _) (p:=⟨w.heap.size+2,2,none⟩) (fun k hk=>hk.2) _) (fun _ _=>trivial)
       ·exact((HO.out.mm.below.setCell zn _).setCell zn _).setCell zn _
    ·rw[if_neg hby]at h
     exact absurd h zd
   ·rw[if_neg hbc]at h
    have hne:(ae !=af)=true:=by simpa using hbc
    simp only[Option.some.injEq,Prod.mk.injEq]at h;obtain⟨rfl,rfl,rfl,rfl⟩:=h;have y0:w4.cell? ⟨w.heap.size+2,0,none⟩=some (.int .i64 0):=(blk_cell Y.out.hr 0).trans rfl;have y1:w4.cell? ⟨w.heap.size+2,1,none⟩=some (.int .i64 0):=(blk_cell Y.out.hr 1).trans rfl;have y2:w4.cell? ⟨w.heap.size+2,2,none⟩=some (.slice none 0 0):=(blk_cell Y.out.hr 2).trans rfl;have f0:=blk_frozen Y.out.hr 0;have f1:=blk_frozen Y.out.hr 1;have f2:=blk_frozen Y.out.hr 2
    go_wp2_with fail
    refine bodyPost_ret (results_ct rfl _ _ (w.heap.size+2) 24 #[.int .i64 0,.int .i64 0,.slice none 0 0] (0,0) _ rfl (blk_put (cs:= #[.int .i64 0,.int .i64 0,.slice none 0 0]) (blk_put (cs:= #[.int .i64 0,.int .i64 0,.slice none 0 0]) (blk_put (cs:= #[.int .i64 0,.int .i64 0,.slice none 0 0]) Y.out.hr 0 _ rfl) 1 _ rfl) 2 _ rfl) Tryd.underlying24 rfl zb) rfl ?_;refine⟨_,rfl,Kd.R_nil _ _ _ _ _,?_⟩;exact((Y.out.below.setCell zn _).setCell zn _).setCell zn _
end Go.Proofs.YtkagobkedifhkaaDoor.Q
namespace Go.Proofs.YtkagobkedifhkaaDoor.Q
open Go.RowKit Go.Proofs.YtkagobkedifhkaaDoorW.PrintWords Go.Proofs.YtkagobkedifhkaaDoorW.PrintLast Go.Proofs.YtkagobkedifhkaaDoorW.PrintMore
attribute [local go_sem] max2_int min2_int max_two min_two max_three min_three max_four min_four
set_option linter.unusedVariables false
set_option linter.unusedSimpArgs false
def verdict_reb.f(k:Nat)(a b:Int)(l:List Int)(s lost:Int):Option (Int×Int×List Int×Int):=
 (verdict_decode.f k a b l s).bind fun q=>if q.2.2.2=0 then((subset_List.f k lost).bind fun L=>(matrix_Pick.f a b l L).bind fun t=>if t.2.2.2=0 then matrix_Mul.f t.1 t.2.1 t.2.2.1 q.1 q.2.1 q.2.2.1 else some (0,0,[],t.2.2.2))else some (0,0,[],q.2.2.2)
def verdict_Rebuild.f(k:Nat)(D:Int)(G:Int)(I:List Int)(a1:Int):Option (Int×Int×List Int×Bool×Int):=
 (verdict_rec.f k D G I a1).bind fun p=>if p.2.1=true then((verdict_reb.f k D G I p.1 a1).bind fun q=>some (q.1,q.2.1,q.2.2.1,q.2.2.2==0,q.2.2.2))else some (0,0,[],false,p.2.2)
structure RebB (w:World) (g6:Nat) (d1 d2:Int) (v6:Value) (d3:List Int) (wr:World):Prop where
 h6:wr.heap[g6]? =some (.cells #[.int .i64 d1,.int .i64 d2,v6] 24 (0,0))
 d6:Kd.R (Kd.int .u8) 5 wr w.heap.size (fun _=>True) v6 d3
 below:Below w.heap.size w wr
 n6:w.heap.size≤g6
structure RebL (w:World) (g6:Nat) (d1 d2:Int) (v6:Value) (d3 L r3:List Int) (f2 f3 f7:Bool) (v2 v3:Value) (g8:Nat) (wr:World):Prop where
 rb:RebB w g6 d1 d2 v6 d3 wr
 h2:f2=true→Kd.R (Kd.int .i64) 3 wr w.heap.size (fun _=>True) v2 L
 h3:f3=true→Kd.R (Kd.int .u8) 5 wr w.heap.size (fun _=>True) v3 r3
 h7:f7=true→wr.heap[g8]? =some (.cells #[.int .i64 0,.int .i64 0,.slice none 0 0] 24 (0,0))∧g6<g8
section
variable {w:World} {g6 g8:Nat} {d1 d2:Int} {v6 v2 v3:Value} {d3 L r3:List Int} {f2 f3 f7:Bool} {wr w1:World}
theorem RebB.next(h:RebB w g6 d1 d2 v6 d3 wr)(hb:Below wr.heap.size wr w1):RebB w g6 d1 d2 v6 d3 w1:=
 ⟨(hb.block _ (lt_of_get h.h6)).trans h.h6,Kd.R_below h.d6 hb,below_step h.below hb,h.n6⟩
theorem RebL.start(h:RebB w g6 d1 d2 v6 d3 wr)(L r3:List Int)(v2 v3:Value)(g8:Nat):RebL w g6 d1 d2 v6 d3 L r3 false false false v2 v3 g8 wr:=
 ⟨h,(fun e=>by cases e),(fun e=>by cases e),(fun e=>by cases e)⟩
theorem RebL.next(h:RebL w g6 d1 d2 v6 d3 L r3 f2 f3 f7 v2 v3 g8 wr)(hb:Below wr.heap.size wr w1):RebL w g6 d1 d2 v6 d3 L r3 f2 f3 f7 v2 v3 g8 w1:=
 ⟨h.rb.next hb,fun e=>Kd.R_below (h.h2 e) hb,fun e=>Kd.R_below (h.h3 e) hb,fun e=>⟨(hb.block _ (lt_of_get (h.h7 e).1)).trans (h.h7 e).1,(h.h7 e).2⟩⟩
theorem RebL.list(h:RebL w g6 d1 d2 v6 d3 L r3 f2 f3 f7 v2 v3 g8 wr){v:Value}(hb:Below wr.heap.size wr w1)(ho:Kd.R (Kd.int .i64) 3 w1 wr.heap.size (fun _=>True) v L):RebL w g6 d1 d2 v6 d3 L r3 true f3 f7 v v3 g8 w1:=by
 have h1:=h.next hb;exact⟨h1.rb,fun _=>Kd.R_lower ho (below_size h.rb.below),h1.h3,h1.h7⟩
theorem RebL.rows(h:RebL w g6 d1 d2 v6 d3 L r3 f2 f3 f7 v2 v3 g8 wr){v:Value}(hb:Below wr.heap.size wr w1)(ho:Kd.R (Kd.int .u8) 5 w1 wr.heap.size (fun _=>True) v r3):RebL w g6 d1 d2 v6 d3 L r3 f2 true f7 v2 v g8 w1:=by
 have h1:=h.next hb;exact⟨h1.rb,h1.h2,fun _=>Kd.R_lower ho (below_size h.rb.below),h1.h7⟩
theorem RebL.box(h:RebL w g6 d1 d2 v6 d3 L r3 f2 f3 f7 v2 v3 g8 wr):RebL w g6 d1 d2 v6 d3 L r3 f2 f3 true v2 v3 wr.heap.size (wr.alloc (.cells #[.int .i64 0,.int .i64 0,.slice none 0 0] 24)):=by
 have h1:=h.next (below_alloc (Below.refl wr.heap.size wr) (.cells #[.int .i64 0,.int .i64 0,.slice none 0 0] 24));exact⟨h1.rb,h1.h2,h1.h3,fun _=>⟨blk_new _ _,lt_of_get h.rb.h6⟩⟩
theorem far3_(w0:World)(g k:Nat)(a b c:Value)(hk:k≠g):(((w0.setCell ⟨g,0,none⟩ a).setCell ⟨g,1,none⟩ b).setCell ⟨g,2,none⟩ c).heap[k]? =w0.heap[k]? :=
 (Below.heap_setCell _ _ _ _ hk).trans ((Below.heap_setCell _ _ _ _ hk).trans (Below.heap_setCell _ _ _ _ hk))
theorem R3_{base g:Nat}{w0:World}{a b c v:Value}{xs:List Int}{ca:Array Value}(hR:Kd.R (Kd.int .u8) 5 w0 base (fun _=>True) v xs)(hg:w0.heap[g]? =some (.cells ca 24 (0,0))):Kd.R (Kd.int .u8) 5 (((w0.setCell ⟨g,0,none⟩ a).setCell ⟨g,1,none⟩ b).setCell ⟨g,2,none⟩ c) base (fun _=>True) v xs:=by
 have h1:=Kd.R_types hR hg (fun q hq=>by obtain rfl:q=5:=(List.mem_cons.1 hq).elim id (fun hx=>by cases hx);decide);exact Kd.R_mono (Kd.R_far (Kd.R_far (Kd.R_far h1 (p:=⟨g,0,none⟩) (fun k hk=>hk.2) _) (p:=⟨g,1,none⟩) (fun k hk=>hk.2) _) (p:=⟨g,2,none⟩) (fun k hk=>hk.2) _) (fun _ _=>trivial)
theorem put3_{w0:World}{g t:Nat}{a0 b0 c0:Value}(h:w0.heap[g]? =some (.cells #[a0,b0,c0] t (0,0)))(a b c:Value):(((w0.setCell ⟨g,0,none⟩ a).setCell ⟨g,1,none⟩ b).setCell ⟨g,2,none⟩ c).heap[g]? =some (.cells #[a,b,c] t (0,0)):=
 blk_put (cs:= #[a,b,c0]) (blk_put (cs:= #[a,b0,c0]) (blk_put (cs:= #[a0,b0,c0]) h 0 _ rfl) 1 _ rfl) 2 _ rfl
theorem below3_{w w0:World}{b g:Nat}(h:Below b w w0)(hg:b≤g)(x y z:Value):Below b w (((w0.setCell ⟨g,0,none⟩ x).setCell ⟨g,1,none⟩ y).setCell ⟨g,2,none⟩ z):=((h.setCell (p:=⟨g,0,none⟩) hg _).setCell (p:=⟨g,1,none⟩) hg _).setCell (p:=⟨g,2,none⟩) hg _
theorem RebL.stored{r1 r2:Int}(h:RebL w g6 d1 d2 v6 d3 L r3 true true true v2 v3 g8 wr): ∀W,W=((wr.setCell ⟨g8,0,none⟩ (.int .i64 r1)).setCell ⟨g8,1,none⟩ (.int .i64 r2)).setCell ⟨g8,2,none⟩ v3→
 W.heap[g8]? =some (.cells #[.int .i64 r1,.int .i64 r2,v3] 24 (0,0))∧Kd.R (Kd.int .u8) 5 W w.heap.size (fun _=>True) v3 r3∧RebB w g6 d1 d2 v6 d3 W:=by
 intro W hW;obtain⟨h8,D⟩:=h.h7 rfl;have h6:=h.rb.n6;subst hW;exact⟨put3_ h8 _ _ _,R3_ (h.h3 rfl) h8,⟨(far3_ _ _ _ _ _ _ za).trans h.rb.h6,R3_ h.rb.d6 h8,below3_ h.rb.below za _ _ _,h6⟩⟩
end
theorem stored_none{w W:World}{bd:Nat}(hd:w.heap[bd]? =some (.cells #[.int .i64 0,.int .i64 0,.slice none 0 0] 24 (0,0)))(hB:Below w.heap.size w W):Stored18 w W bd 0 0 []:=
 have hlt:bd<w.heap.size:=(Array.getElem?_eq_some_iff.1 hd).1
 ⟨⟨_,(hB.block _ hlt).trans hd,Kd.R_nil _ _ _ _ _⟩,hB.mono (Nat.le_of_lt hlt),fun k hk _=>hB.block k hk⟩
set_option maxHeartbeats 8000000 in
set_option maxRecDepth 100000 in
theorem verdict_fn45.calls(k:Nat)(a b:Int)(A:Option Addr)(c:Nat)(l:List Int)(s lost r1 r2:Int)(r3:List Int)(r4:Int)(bg bl bd:Nat)(w:World)
 (hg:w.heap[bg]? =some (.cells #[.int .i64 a,.int .i64 b,.slice A l.length c] 24 (0,0))) (hl:w.heap[bl]? =some (.cells #[.int .u64 lost] 26 (0,0))) (hd:w.heap[bd]? =some (.cells #[.int .i64 0,.int .i64 0,.slice none 0 0] 24 (0,0)))
 (hr:Kd.C (Kd.int .u8) w A l.length l) (hc:l.length≤c) (h:verdict_reb.f k a b l s lost=some (r1,r2,r3,r4)) (hT:TabAt 0 Lib.deBruijn64tab w):
 Calls Tryd.prog 45 #[.int .u64 s,.pointer (some ⟨bg,0,none⟩),.pointer (some ⟨bl,0,none⟩),.pointer (some ⟨bd,0,none⟩)] w fun e w'=>e= .returned (.int .i64 r4)∧Stored18 w w' bd r1 r2 r3:=by
 have ah:=Tryd.underlying24;have HR:=aK hr;have HC:=aK hc;have HT:=aK hT;have HD:=aK hd;have HLo:=aK hl;have BK:=aK hg;have hbd:bd<w.heap.size:=(Array.getElem?_eq_some_iff.1 hd).1;unfold verdict_reb.f at h;obtain⟨⟨d1,d2,d3,d4⟩,hde,h2⟩:=Option.bind_eq_some_iff.mp h;clear h;have h:=h2;clear h2
 dsimp only at h
 have HDE:=aK hde;clear hr hc hT hd hl hg hde;obtain⟨hcx_0,hcx_1,hcx_2,hfx_0,hfx_1,hfx_2⟩:=cell3 BK
 go_enter Tryd.func45,Tryd.ntmps45
 go_upto_region 2 with(go_at_call 42;refine(verdict_decode.calls k a b A c l s d1 d2 d3 d4 _ HR.out HC.out HDE.out HT.out).mono ?_;rintro e w1 ⟨v,rfl,ho,hb⟩;obtain⟨Av,cv,ev⟩:=Kd.R_slice ho;subst ev;have HO:=aK ho;have Y:=aK hb;clear ho hb)
 have X:RebB w w1.heap.size d1 d2 (.slice Av d3.length cv) d3 (w1.alloc (.cells #[.int .i64 d1,.int .i64 d2,.slice Av d3.length cv] 24)):=⟨blk_new _ _,Kd.R_below HO.out (below_alloc (Below.refl _ _) _),below_alloc Y.out _,Y.out.size⟩
 have HRB:=aK X;clear X HO Y hcx_0 hcx_1 hcx_2 hfx_0 hfx_1 hfx_2;generalize w1.alloc (.cells #[.int .i64 d1,.int .i64 d2,.slice Av d3.length cv] 24)=W at*;generalize w1.heap.size=g6 at*;by_cases hz:d4=0
 ·rw[if_pos hz]at h
  subst hz;obtain⟨L,hL,h2⟩:=Option.bind_eq_some_iff.mp h;obtain⟨⟨p1,p2,p3,p4⟩,hP,h3⟩:=Option.bind_eq_some_iff.mp h2;clear h h2;have h:=h3;clear h3
  dsimp only at h
  have HL:=aK hL;have HP:=aK hP;clear hL hP
  go_upto_region 4 with(fail)
  obtain⟨v2,_⟩: ∃v:Value,v= .int .i64 0:=⟨_,rfl⟩
  obtain⟨v3,_⟩: ∃v:Value,v= .int .i64 0:=⟨_,rfl⟩
  obtain⟨g8,_⟩: ∃g:Nat,g=0:=⟨_,rfl⟩
  refine start_ (n:=10) (S:=fun w'=>w'.cell? ⟨bg,0,none⟩=some (.int .i64 a)∧w'.cell? ⟨bg,1,none⟩=some (.int .i64 b)∧w'.cell? ⟨bg,2,none⟩=some (.slice A l.length c)∧w'.cell? ⟨bl,0,none⟩=some (.int .u64 lost)) (ds:= [8]) (mB 10 0) zb rfl rfl ⟨(blk_cell (blk_below BK.out HRB.out.below) 0).trans rfl,(blk_cell (blk_below BK.out HRB.out.below) 1).trans rfl,(blk_cell (blk_below BK.out HRB.out.below) 2).trans rfl,(blk_cell (blk_below HLo.out HRB.out.below) 0).trans rfl⟩ (fun hHeld=>?_);have HN:=aK (RebL.start (HRB.out.next (below_drew (Below.refl _ _))) L p3 v2 v3 g8);clear HRB;generalize W.drew=U at*;refine ztk4 0 (some 19) (mB 10 1) hHeld ?_;refine ztk4 1 (some 20) (mB 10 3) hHeld ?_;refine join_ (σ:=Value×Value×Nat) 2 (mB 10 255) (fun s=> [(21,s.1),(22,.tuple #[.agg #[.int .i64 p1,.int .i64 p2,s.2.1],.int .i64 p4]),(8,.pointer (some ⟨s.2.2,0,none⟩)),(18,.tuple #[.agg #[.int .i64 p1,.int .i64 p2,s.2.1],.int .i64 p4]),(23,.agg #[.int .i64 p1,.int .i64 p2,s.2.1]),(24,.int .i64 p4)]) (fun s w'=>Aside0 (RebL w g6 d1 d2 (.slice Av d3.length cv) d3 L p3 true true true s.1 s.2.1 s.2.2 w')) ?_ ?_;rotate_left
  ·intro I;refine join_ (σ:=Value×Value×Nat) 3 (mB 10 127) (fun s=> [(21,s.1),(22,.tuple #[.agg #[.int .i64 p1,.int .i64 p2,s.2.1],.int .i64 p4]),(18,.tuple #[.agg #[.int .i64 p1,.int .i64 p2,s.2.1],.int .i64 p4]),(23,.agg #[.int .i64 p1,.int .i64 p2,s.2.1]),(24,.int .i64 p4)]) (fun s w'=>Aside0 (RebL w g6 d1 d2 (.slice Av d3.length cv) d3 L p3 true true false s.1 s.2.1 s.2.2 w')) ?_ ?_;rotate_left
   ·intro aa;refine join_ (σ:=Value×Value×Nat) 6 (mB 10 135) (fun s=> [(21,s.1),(8,.pointer (some ⟨s.2.2,0,none⟩))]) (fun s w'=>Aside0 (RebL w g6 d1 d2 (.slice Av d3.length cv) d3 L p3 true false true s.1 s.2.1 s.2.2 w')) ?_ ?_;rotate_left
    ·intro J;refine join_ (σ:=Value×Value×Nat) 7 (mB 10 7) (fun s=> [(21,s.1)]) (fun s w'=>Aside0 (RebL w g6 d1 d2 (.slice Av d3.length cv) d3 L p3 true false false s.1 s.2.1 s.2.2 w')) ?_ ?_;rotate_left
     ·intro af;refine join_ (σ:=Value×Value×Nat) 7 (mB 10 131) (fun s=> [(8,.pointer (some ⟨s.2.2,0,none⟩))]) (fun s w'=>Aside0 (RebL w g6 d1 d2 (.slice Av d3.length cv) d3 L p3 false false true s.1 s.2.1 s.2.2 w')) ?_ ?_;rotate_left
      ·intro ag;refine two_ (i:=2) (j:=7) (Ni:=some 21) (Nj:=some 8) (mB 10 7) (mB 10 131) rfl rfl rfl rfl zb zc zc (fun K hK=>?_) (fun K hK=>?_)
       ·skip
        refine goes_ Tryd.func47 zb rfl #[.int .u64 lost] ze rfl rfl zg ?_;refine(subset_List.calls k lost L _ HL.out (tab_below HT.out HN.out.rb.below)).mono ?_;rintro e' U1 ⟨vt,rfl,ho,hb⟩;refine⟨_,rfl,?_⟩;have D:=HN.out.list hb ho;refine hK.out _ _ ⟨(blk_cell (blk_below BK.out D.rb.below) 0).trans rfl,(blk_cell (blk_below BK.out D.rb.below) 1).trans rfl,(blk_cell (blk_below BK.out D.rb.below) 2).trans rfl,(blk_cell (blk_below HLo.out D.rb.below) 0).trans rfl⟩ (fun hHeld=>?_);clear hK K;refine znm (some 21) ?_;exact norm_ zh (af (vt,v3,g8) _ ⟨D⟩)
       ·skip
        refine value_ (w1:=?_) (v:=?_) ze rfl ?_ ?_;rotate_left 2
        ·go_simp;constructor
         ·rfl
         ·rfl
        have D:=HN.out.box;refine hK.out _ _ ⟨(blk_cell (blk_below BK.out D.rb.below) 0).trans rfl,(blk_cell (blk_below BK.out D.rb.below) 1).trans rfl,(blk_cell (blk_below BK.out D.rb.below) 2).trans rfl,(blk_cell (blk_below HLo.out D.rb.below) 0).trans rfl⟩ (fun hHeld=>?_);clear hK K;refine znm (some 8) ?_;exact norm_ zh (ag (v2,v3,U.heap.size) _ ⟨D⟩)
      ·skip
       rintro⟨v2,v3,g8⟩ U HN;have hHeld:U.cell? ⟨bg,0,none⟩=some (.int .i64 a)∧U.cell? ⟨bg,1,none⟩=some (.int .i64 b)∧U.cell? ⟨bg,2,none⟩=some (.slice A l.length c)∧U.cell? ⟨bl,0,none⟩=some (.int .u64 lost):=⟨(blk_cell (blk_below BK.out HN.out.rb.below) 0).trans rfl,(blk_cell (blk_below BK.out HN.out.rb.below) 1).trans rfl,(blk_cell (blk_below BK.out HN.out.rb.below) 2).trans rfl,(blk_cell (blk_below HLo.out HN.out.rb.below) 0).trans rfl⟩
       refine znq ?_;refine zon 2 (some 21) (mB 10 135) fun K hK=>?_;refine goes_ Tryd.func47 zb rfl #[.int .u64 lost] ze rfl rfl zg ?_;refine(subset_List.calls k lost L _ HL.out (tab_below HT.out HN.out.rb.below)).mono ?_;rintro e' U1 ⟨vt,rfl,ho,hb⟩;refine⟨_,rfl,?_⟩;have D:=HN.out.list hb ho;refine hK.out _ _ ⟨(blk_cell (blk_below BK.out D.rb.below) 0).trans rfl,(blk_cell (blk_below BK.out D.rb.below) 1).trans rfl,(blk_cell (blk_below BK.out D.rb.below) 2).trans rfl,(blk_cell (blk_below HLo.out D.rb.below) 0).trans rfl⟩ (fun hHeld=>?_);clear hK K;refine znm (some 21) ?_;exact norm_ zh (J (vt,v3,g8) _ ⟨D⟩)
     ·skip
      rintro⟨v2,v3,g8⟩ U HN;have hHeld:U.cell? ⟨bg,0,none⟩=some (.int .i64 a)∧U.cell? ⟨bg,1,none⟩=some (.int .i64 b)∧U.cell? ⟨bg,2,none⟩=some (.slice A l.length c)∧U.cell? ⟨bl,0,none⟩=some (.int .u64 lost):=⟨(blk_cell (blk_below BK.out HN.out.rb.below) 0).trans rfl,(blk_cell (blk_below BK.out HN.out.rb.below) 1).trans rfl,(blk_cell (blk_below BK.out HN.out.rb.below) 2).trans rfl,(blk_cell (blk_below HLo.out HN.out.rb.below) 0).trans rfl⟩
      refine znq ?_;refine two_ (i:=3) (j:=7) (Ni:=some 22) (Nj:=some 8) (mB 10 15) (mB 10 135) rfl rfl rfl rfl zb zc zc (fun K hK=>?_) (fun K hK=>?_)
      ·skip
       obtain⟨A2,c2,e2⟩:=Kd.R_slice (HN.out.h2 rfl);subst e2;refine goes_ Tryd.func46 zb rfl #[.agg #[.int .i64 a,.int .i64 b,.slice A l.length c],.slice A2 L.length c2] ze rfl rfl zg ?_;refine(matrix_Pick.calls a b A c l A2 c2 L p1 p2 p3 p4 _ (Kd.C_below HR.out HN.out.rb.below) HC.out (Kd.R_reads' (HN.out.h2 rfl)).2.2 (Kd.R_reads' (HN.out.h2 rfl)).2.1 HP.out).mono ?_;rintro e' U1 ⟨vt,rfl,ho,hb⟩;refine⟨_,rfl,?_⟩;have D:=HN.out.rows hb ho;refine hK.out _ _ ⟨(blk_cell (blk_below BK.out D.rb.below) 0).trans rfl,(blk_cell (blk_below BK.out D.rb.below) 1).trans rfl,(blk_cell (blk_below BK.out D.rb.below) 2).trans rfl,(blk_cell (blk_below HLo.out D.rb.below) 0).trans rfl⟩ (fun hHeld=>?_);clear hK K;refine znm (some 22) ?_;refine zpu 4 (some 18) (mB 10 31) ?_;refine zpu 5 (some 23) (mB 10 63) ?_;refine zpu 6 (some 24) (mB 10 127) ?_;exact norm_ zh (aa (.slice A2 L.length c2,vt,g8) _ ⟨D⟩)
      ·skip
       refine value_ (w1:=?_) (v:=?_) ze rfl ?_ ?_;rotate_left 2
       ·go_simp;constructor
        ·rfl
        ·rfl
       have D:=HN.out.box;refine hK.out _ _ ⟨(blk_cell (blk_below BK.out D.rb.below) 0).trans rfl,(blk_cell (blk_below BK.out D.rb.below) 1).trans rfl,(blk_cell (blk_below BK.out D.rb.below) 2).trans rfl,(blk_cell (blk_below HLo.out D.rb.below) 0).trans rfl⟩ (fun hHeld=>?_);clear hK K;refine znm (some 8) ?_;exact norm_ zh (J (v2,v3,U.heap.size) _ ⟨D⟩)
    ·skip
     rintro⟨v2,v3,g8⟩ U HN;have hHeld:U.cell? ⟨bg,0,none⟩=some (.int .i64 a)∧U.cell? ⟨bg,1,none⟩=some (.int .i64 b)∧U.cell? ⟨bg,2,none⟩=some (.slice A l.length c)∧U.cell? ⟨bl,0,none⟩=some (.int .u64 lost):=⟨(blk_cell (blk_below BK.out HN.out.rb.below) 0).trans rfl,(blk_cell (blk_below BK.out HN.out.rb.below) 1).trans rfl,(blk_cell (blk_below BK.out HN.out.rb.below) 2).trans rfl,(blk_cell (blk_below HLo.out HN.out.rb.below) 0).trans rfl⟩
     refine znq ?_;refine zon 3 (some 22) (mB 10 143) fun K hK=>?_;obtain⟨A2,c2,e2⟩:=Kd.R_slice (HN.out.h2 rfl);subst e2;refine goes_ Tryd.func46 zb rfl #[.agg #[.int .i64 a,.int .i64 b,.slice A l.length c],.slice A2 L.length c2] ze rfl rfl zg ?_;refine(matrix_Pick.calls a b A c l A2 c2 L p1 p2 p3 p4 _ (Kd.C_below HR.out HN.out.rb.below) HC.out (Kd.R_reads' (HN.out.h2 rfl)).2.2 (Kd.R_reads' (HN.out.h2 rfl)).2.1 HP.out).mono ?_;rintro e' U1 ⟨vt,rfl,ho,hb⟩;refine⟨_,rfl,?_⟩;have D:=HN.out.rows hb ho;refine hK.out _ _ ⟨(blk_cell (blk_below BK.out D.rb.below) 0).trans rfl,(blk_cell (blk_below BK.out D.rb.below) 1).trans rfl,(blk_cell (blk_below BK.out D.rb.below) 2).trans rfl,(blk_cell (blk_below HLo.out D.rb.below) 0).trans rfl⟩ (fun hHeld=>?_);clear hK K;refine znm (some 22) ?_;refine zpu 4 (some 18) (mB 10 159) ?_;refine zpu 5 (some 23) (mB 10 191) ?_;refine zpu 6 (some 24) (mB 10 255) ?_;exact norm_ zh (I (.slice A2 L.length c2,vt,g8) _ ⟨D⟩)
   ·skip
    rintro⟨v2,v3,g8⟩ U HN;have hHeld:U.cell? ⟨bg,0,none⟩=some (.int .i64 a)∧U.cell? ⟨bg,1,none⟩=some (.int .i64 b)∧U.cell? ⟨bg,2,none⟩=some (.slice A l.length c)∧U.cell? ⟨bl,0,none⟩=some (.int .u64 lost):=⟨(blk_cell (blk_below BK.out HN.out.rb.below) 0).trans rfl,(blk_cell (blk_below BK.out HN.out.rb.below) 1).trans rfl,(blk_cell (blk_below BK.out HN.out.rb.below) 2).trans rfl,(blk_cell (blk_below HLo.out HN.out.rb.below) 0).trans rfl⟩
    refine znq ?_;refine zon 7 (some 8) (mB 10 255) fun K hK=>?_;refine value_ (w1:=?_) (v:=?_) ze rfl ?_ ?_;rotate_left 2
    ·go_simp;constructor
     ·rfl
     ·rfl
    have D:=HN.out.box;refine hK.out _ _ ⟨(blk_cell (blk_below BK.out D.rb.below) 0).trans rfl,(blk_cell (blk_below BK.out D.rb.below) 1).trans rfl,(blk_cell (blk_below BK.out D.rb.below) 2).trans rfl,(blk_cell (blk_below HLo.out D.rb.below) 0).trans rfl⟩ (fun hHeld=>?_);clear hK K;refine znm (some 8) ?_;exact norm_ zh (I (v2,v3,U.heap.size) _ ⟨D⟩)
  rintro⟨v2,v3,g8⟩ U HN;have hHeld:U.cell? ⟨bg,0,none⟩=some (.int .i64 a)∧U.cell? ⟨bg,1,none⟩=some (.int .i64 b)∧U.cell? ⟨bg,2,none⟩=some (.slice A l.length c)∧U.cell? ⟨bl,0,none⟩=some (.int .u64 lost):=⟨(blk_cell (blk_below BK.out HN.out.rb.below) 0).trans rfl,(blk_cell (blk_below BK.out HN.out.rb.below) 1).trans rfl,(blk_cell (blk_below BK.out HN.out.rb.below) 2).trans rfl,(blk_cell (blk_below HLo.out HN.out.rb.below) 0).trans rfl⟩
  refine znq ?_;refine zln 8 (none) (mB 10 511) fun K hK=>?_;obtain⟨A3,c3,e3⟩:=Kd.R_slice (HN.out.h3 rfl);subst e3;have q0:=(blk_cell (HN.out.h7 rfl).1 0).trans rfl;have q1:=(blk_cell (HN.out.h7 rfl).1 1).trans rfl;have q2:=(blk_cell (HN.out.h7 rfl).1 2).trans rfl;have f0:=blk_frozen (HN.out.h7 rfl).1 0;have f1:=blk_frozen (HN.out.h7 rfl).1 1;have f2:=blk_frozen (HN.out.h7 rfl).1 2;refine zsk ?_;obtain⟨U8,ab⟩: ∃U8,U8=((U.setCell ⟨g8,0,none⟩ (.int .i64 p1)).setCell ⟨g8,1,none⟩ (.int .i64 p2)).setCell ⟨g8,2,none⟩ (.slice A3 p3.length c3):=⟨_,rfl⟩
  rw[←ab];obtain⟨z1,z2,z3⟩:=HN.out.stored U8 ab;have H8:=aK z1;have HV:=aK z2;have G:=aK z3;clear ab q0 q1 q2 f0 f1 f2 z1 z2 z3;refine hK.out _ _ ?_;clear hK K;refine zpu 9 (some 7) (mB 10 1023) ?_;refine done_ zb ?_;clear hHeld HN;by_cases O:p4=0
  ·rw[if_pos O]at h
   subst O;have HM:=aK h;clear h;have ae:=aK (blk_below HD.out G.out.below);obtain⟨hcx_0,hcx_1,hcx_2,hfx_0,hfx_1,hfx_2⟩:=cell3 H8;obtain⟨hcz_0,hcz_1,hcz_2,hfz_0,hfz_1,hfz_2⟩:=cell3 (aK G.out.h6);have RA:=Kd.R_reads' HV.out;have RD:=Kd.R_reads' G.out.d6;have HRA:=aK RA;have HRD:=aK RD;clear RA RD
   go_wp2_with (go_at_call 48;refine(matrix_Mul.calls p1 p2 A3 c3 p3 d1 d2 Av cv d3 r1 r2 r3 r4 _ HRA.out.2.2 HRA.out.2.1 HRD.out.2.2 HRD.out.2.1 HM.out).mono ?_;rintro e w5 ⟨v,rfl,ho,hb⟩;obtain⟨Am,cm,em⟩:=Kd.R_slice ho;subst em;have Z:=aK (blk_below ae.out hb);obtain⟨hcy_0,hcy_1,hcy_2,hfy_0,hfy_1,hfy_2⟩:=cell3 Z)
   go_ret
   have ac:=below_step G.out.below hb;have hw:Below bd w w5:=ac.mono za;refine⟨rfl,⟨⟨_,put3_ Z.out _ _ _,R3_ (Kd.R_lower ho G.out.below.size) Z.out⟩,below3_ hw (Nat.le_refl _) _ _ _,fun k hk hne=>?_⟩⟩;rw[far3_ _ _ _ _ _ _ hne];exact ac.block k hk
  ·rw[if_neg O]at h
   simp only[Option.some.injEq,Prod.mk.injEq]at h;obtain⟨rfl,rfl,rfl,rfl⟩:=h;have tst:(p4 !=0)=true:=by simpa using O
   go_wp2_with fail
   go_ret
   exact⟨rfl,stored_none HD.out G.out.below⟩
 ·rw[if_neg hz]at h
  simp only[Option.some.injEq,Prod.mk.injEq]at h;obtain⟨rfl,rfl,rfl,rfl⟩:=h;have tst:(d4 !=0)=true:=by simpa using hz
  go_wp2_with fail
  go_ret
  exact⟨rfl,stored_none HD.out HRB.out.below⟩
theorem verdict_recovered45.calls(k:Nat)(a b:Int)(A:Option Addr)(c:Nat)(l:List Int)(x:Int)(r1 r2:Int)(r3:List Int)(r4:Bool)(r5:Int)(bg bl bd:Nat)(w:World)
 (hr:Kd.C (Kd.int .u8) w A l.length l) (hc:l.length≤c) (h:verdict_Rebuild.f k a b l x=some (r1,r2,r3,r4,r5)) (hT:TabAt 0 Lib.deBruijn64tab w)
 (hl:w.heap[bl]? =some (.cells #[.int .u64 x] 26 (0,0))) (hg:w.heap[bg]? =some (.cells #[.int .i64 a,.int .i64 b,.slice A l.length c] 24 (0,0))) (hd:w.heap[bd]? =some (.cells #[.int .i64 0,.int .i64 0,.slice none 0 0] 24 (0,0))):
 Calls Tryd.prog 30 #[.agg #[.int .i64 a,.int .i64 b,.slice A l.length c],.int .u64 x,.func (.func 45) #[] #[.pointer (some ⟨bg,0,none⟩),.pointer (some ⟨bl,0,none⟩),.pointer (some ⟨bd,0,none⟩)]] w fun e w'=>
  e= .returned (.tuple #[.bool r4,.int .i64 r5])∧(∃v:Value,w'.heap[bd]? =some (.cells #[.int .i64 r1,.int .i64 r2,v] 24 (0,0))∧Kd.R (Kd.int .u8) 5 w' w.heap.size (fun _=>True) v r3)∧Below bd w w':=by
 unfold verdict_Rebuild.f at h;obtain⟨⟨s,ok,er⟩,h1,h2⟩:=Option.bind_eq_some_iff.mp h;have hlt:bd<w.heap.size:=(Array.getElem?_eq_some_iff.1 hd).1
 cases ok with
 |false=>
  rw[if_neg (show¬(false=true)by decide)]at h2
  injection h2 with h2;injection h2 with e1 h2;injection h2 with e2 h2;injection h2 with e3 h2;injection h2 with e4 e5;refine verdict_recovered.goes k a b A c l x s false er 45 _ w (fun W G W2=>True) _ hr hc h1 hT (enters_of Tryd.func45 zb rfl) (fun e=>by cases e) (fun _ w' hB=>?_) (fun e=>by cases e);rw[←e1,←e2,←e3,←e4,←e5];exact⟨rfl,⟨_,(hB.block _ hlt).trans hd,Kd.R_nil _ _ _ _ _⟩,hB.mono (Nat.le_of_lt hlt)⟩
 |true=>
  rw[if_pos rfl]at h2
  obtain⟨⟨q1,q2,q3,q4⟩,h3,h2⟩:=Option.bind_eq_some_iff.mp h2;injection h2 with h2;injection h2 with e1 h2;injection h2 with e2 h2;injection h2 with e3 h2;injection h2 with e4 e5
  dsimp only at e1 e2 e3 e4 e5
  subst e1 e2 e3 e5;refine verdict_recovered.goes k a b A c l x s true er 45 #[.pointer (some ⟨bg,0,none⟩),.pointer (some ⟨bl,0,none⟩),.pointer (some ⟨bd,0,none⟩)] w (fun W G W2=>G=q4∧Stored18 W W2 bd q1 q2 q3) _ hr hc h1 hT (enters_of Tryd.func45 zb rfl) (fun _ W hB=>?_) (fun e=>by cases e) (fun _ W G W2 D hB I O J hK=>?_)
  ·have hgW:=(hB.block _ (Array.getElem?_eq_some_iff.1 hg).1).trans hg;have hdW:=(hB.block _ hlt).trans hd;refine(verdict_fn45.calls k a b A c l s x q1 q2 q3 q4 bg bl bd W hgW ((hB.block _ (Array.getElem?_eq_some_iff.1 hl).1).trans hl) hdW (Kd.C_below hr hB) hc h3 (tab_below hT hB)).mono ?_;rintro e W' ⟨rfl,hS⟩;refine⟨q4,rfl,⟨rfl,hS⟩,fun D hD=>?_⟩;refine(hS.same D (Array.getElem?_eq_some_iff.1 hD).1 ?_).trans hD;intro e;rw[e,hdW]at hD
   cases hD
  ·obtain⟨rfl,hS⟩:=J;have hm:=hS.mark hB.size (Nat.le_of_lt hlt) I hK (hB.mono (Nat.le_of_lt hlt));rw[←e4];exact⟨rfl,hm.1,hm.2⟩
set_option maxHeartbeats 4000000 in
set_option maxRecDepth 100000 in
theorem verdict_Rebuild.calls(k:Nat)(I:Int)(J:Int)(G:Option Addr)(O:Nat)(D:List Int)(a1:Int)(r1:Int)(r2:Int)(r3:List Int)(r4:Bool)(r5:Int)(w:World)(X:Kd.C (Kd.int .u8) w G D.length D)(U:D.length≤O)(h:verdict_Rebuild.f k I J D a1=some (r1,r2,r3,r4,r5))(hT:TabAt 0 Lib.deBruijn64tab w):
 Calls Tryd.prog 22 #[.agg #[.int .i64 I,.int .i64 J,.slice G D.length O],.int .u64 a1] w fun e w'=> ∃v2_:Value,e= .returned (.tuple #[.agg #[.int .i64 r1,.int .i64 r2,v2_],.bool r4,.int .i64 r5])∧Kd.R (Kd.int .u8) 5 w' w.heap.size (fun _=>True) v2_ r3∧Below w.heap.size w w':=by
 have ab:=Tryd.underlying24;have HR:=aK X;have HC:=aK U;have HT:=aK hT;have HH:=aK h;have HB:=aK (Below.refl w.heap.size w);clear X U hT h;have Z:=heap_alloc2_old w (.cells #[.int .i64 I,.int .i64 J,.slice G D.length O] 24) (.cells #[.int .u64 a1] 26);have BK:=aK (((below_alloc (Below.refl _ _) (.cells #[.int .i64 0,.int .i64 0,.slice none 0 0] 24)).block _ (lt_of_get Z)).trans Z);have aa:=heap_alloc2_old (w.alloc (.cells #[.int .i64 I,.int .i64 J,.slice G D.length O] 24)) (.cells #[.int .u64 a1] 26) (.cells #[.int .i64 0,.int .i64 0,.slice none 0 0] 24);rw[World.size_alloc]at aa
 have BL:=aK aa;have Y:=World.alloc_heap_new ((w.alloc (.cells #[.int .i64 I,.int .i64 J,.slice G D.length O] 24)).alloc (.cells #[.int .u64 a1] 26)) (.cells #[.int .i64 0,.int .i64 0,.slice none 0 0] 24);rw[World.size_alloc,World.size_alloc]at Y
 have BD:=aK Y;have hcl_0:=blk_cell BL.out 0;obtain⟨hcx_0,hcx_1,hcx_2,hfx_0,hfx_1,hfx_2⟩:=cell3 BK;clear Z aa Y
 go_enter Tryd.func22,Tryd.ntmps22
 go_wp2_with (go_at_call 30;refine(verdict_recovered45.calls k I J G O D a1 r1 r2 r3 r4 r5 w.heap.size (w.heap.size+1) (w.heap.size+1+1) _ (kcB HR HB) HC.out HH.out (tab_below HT.out (hbA HB.out)) BL.out BK.out BD.out).mono ?_;rintro e w1 ⟨rfl,⟨v,hv,ho⟩,hb⟩;obtain⟨Av,cv,ev⟩:=Kd.R_slice ho;subst ev;have HV:=aK hv;clear hv;obtain⟨hcy_0,hcy_1,hcy_2,hfy_0,hfy_1,hfy_2⟩:=cell3 HV)
 have b0:=blk_put (cs:= #[.int .i64 r1,.int .i64 r2,.slice Av r3.length cv]) HV.out 0 (.int .i64 r1) rfl;have b1:=blk_put (cs:= #[.int .i64 r1,.int .i64 r2,.slice Av r3.length cv]) b0 1 (.int .i64 r2) rfl;have b2:=blk_put (cs:= #[.int .i64 r1,.int .i64 r2,.slice Av r3.length cv]) b1 2 (.slice Av r3.length cv) rfl;have ho':=Kd.R_types ho HV.out zc;have o2:=Kd.R_far (p:=⟨w.heap.size+1+1,2,none⟩) (Kd.R_far (p:=⟨w.heap.size+1+1,1,none⟩) (Kd.R_far (p:=⟨w.heap.size+1+1,0,none⟩) ho' (fun _ hk=>hk.2) (.int .i64 r1)) (fun _ hk=>hk.2) (.int .i64 r2)) (fun _ hk=>hk.2) (.slice Av r3.length cv);obtain⟨hcz_0,hcz_1,hcz_2,hfz_0,hfz_1,hfz_2⟩:=cell3 (aK b2);have h0:Below w.heap.size w (((w.alloc (.cells #[.int .i64 I,.int .i64 J,.slice G D.length O] 24)).alloc (.cells #[.int .u64 a1] 26)).alloc (.cells #[.int .i64 0,.int .i64 0,.slice none 0 0] 24)):=hbA HB.out;have hw:=h0.trans (hb.mono za);refine⟨rfl,.tuple #[.agg #[.int .i64 r1,.int .i64 r2,.slice Av r3.length cv],.bool r4,.int .i64 r5],?_,.slice Av r3.length cv,rfl,Kd.R_mono (Kd.R_lower o2 h0.size) fun _ _=>trivial,?_⟩
 ·simp[results,show Tryd.f22.results= #[ResultVar.cell 4 24,ResultVar.tmp 5,ResultVar.tmp 6]from rfl,go_sem,ab,hcz_0,hcz_1,hcz_2]
 ·exact((hw.setCell (p:=⟨w.heap.size+1+1,0,none⟩) zae _).setCell (p:=⟨w.heap.size+1+1,1,none⟩) zae _).setCell (p:=⟨w.heap.size+1+1,2,none⟩) zae _
end Go.Proofs.YtkagobkedifhkaaDoor.Q
namespace Go.Proofs.YtkagobkedifhkaaDoor.Q
open Go.RowKit Go.Proofs.YtkagobkedifhkaaDoorW.PrintWords Go.Proofs.YtkagobkedifhkaaDoorW.PrintLast Go.Proofs.YtkagobkedifhkaaDoorW.PrintMore
attribute [local go_sem] max2_int min2_int max_two min_two max_three min_three max_four min_four
set_option linter.unusedVariables false
set_option linter.unusedSimpArgs false
def recoupref03_Zero.f(a0:Int)(a1:Int):Option (Int×Int×List Int):=if 0≤(wrap64 (a0*a1))then(if(wrap64 (a0*a1):Int).toNat≤281474976710656 then(some (a0,a1,(List.replicate (wrap64 (a0*a1):Int).toNat 0)))else(none))else(none)
set_option maxHeartbeats 8000000 in
set_option maxRecDepth 100000 in
theorem recoupref03_Zero.calls(a0:Int)(a1:Int)(r1:Int)(r2:Int)(r3:List Int)(w:World)(h:recoupref03_Zero.f a0 a1=some (r1,r2,r3)):
 Calls Tryd.prog 43 #[.int .i64 a0,.int .i64 a1] w fun e w'=> ∃v2_:Value,e= .returned (.agg #[.int .i64 r1,.int .i64 r2,v2_])∧Kd.R (Kd.int .u8) 5 w' w.heap.size (fun _=>True) v2_ r3∧Below w.heap.size w w':=by
 have al:=Tryd.underlying24;have HB:=aK (Below.refl w.heap.size w);have H:(if 0≤(wrap64 (a0*a1))then(if(wrap64 (a0*a1):Int).toNat≤281474976710656 then(some (a0,a1,(List.replicate (wrap64 (a0*a1):Int).toNat 0)))else(none))else(none))=some (r1,r2,r3):=h;clear h;obtain⟨I,L⟩: ∃j_:Int,(wrap64 (a0*a1))=j_:=⟨_,rfl⟩
 replace H:(if 0≤(I)then(if(I:Int).toNat≤281474976710656 then(some (a0,a1,(List.replicate (I:Int).toNat 0)))else(none))else(none))=some (r1,r2,r3):=by first|(rw[L]at H;exact H)|(simp only[L]at H⊢;exact H)
 have hji3w:(IntKind.i64.wrap (a0*a1))=I:=(i64_w _).trans L;by_cases c4:0≤(I)
 ·rw[if_pos c4]at H
  have c4b0:=eq_true c4;have c4b1:decide (0≤(I))=true:=decide_eq_true c4;clear c4;by_cases c5:(I:Int).toNat≤281474976710656
  ·rw[if_pos c5]at H
   have c5b0:=eq_true c5;have c5b1:decide ((I:Int).toNat≤281474976710656)=true:=decide_eq_true c5;clear c5;obtain⟨Y,G⟩: ∃y_:List Int,y_=(List.replicate (I:Int).toNat 0):=⟨_,rfl⟩
   replace H:(some (a0,a1,Y))=some (r1,r2,r3):=by first|(rw[G];with_reducible exact H)|(have H2_:=(Option.bind_some _ _).symm.trans H;rw[G];with_reducible exact H2_)|(have H2_:=(Option.bind_some _ _).symm.trans H;with_reducible exact H2_)|with_reducible exact H|(rw[G];exact H)|exact H
   have U:=aK G;clear G;simp only[Option.some.injEq,Prod.mk.injEq]at H;obtain⟨rfl,rfl,rfl⟩:=H
   go_enter Tryd.func43,Tryd.ntmps43
   go_wp2_with (first|((with_reducible refine gD 4 rfl ?_);refine bE 4 #[.int .i64 0,.int .i64 0,.slice none 0 0] 24 ?_;intro J hg w6 hbox hb;have D:=aK (hbox);have aj:=hbS HB hg;have ai:=hbS HB hg;replace HB:=hbB HB hb;clear hb hbox hg)|((with_reducible refine gate_dst (N:=10) rfl ?_);refine Kd.R_make (Kd.int .u8) _ 5 rfl (N:=10) rfl 22 _ _ rfl I rfl rfl Tryd.underlying22 (.int .u8 0) 1 info5 rfl zc za 0 (ok:=fun _=>True) (okp:=fun _=>True) rfl (fun _ hk=>hk) trivial (of_decide_eq_true asE) (Nat.le_trans (Nat.mul_le_mul_right _ (of_decide_eq_true asE:I.toNat≤281474976710656)) za) (Below.refl _ _) (Nat.le_refl _) ?_;intro am w7 X hb hg_ hnew_;clear hg_ hnew_;(first|rw[←U.out]at X|(simp only[Int.reduceToNat]at X;rw[←U.out]at X));have O:=aK (Kd.R_lower X (below_size (hbA HB.out)));replace D:=bkB D hb;replace HB:=hbB HB hb;clear hb X;obtain⟨Z,aa,ak⟩:=Kd.R_slice O.out;subst ak;obtain⟨ab,ac,ae,af,ag,ah⟩:=cell3 D))
   refine bodyPost_ret (results_cell_row rfl _ _ J 24 #[.int .i64 a0,.int .i64 a1,.slice Z Y.length aa] (0,0) _ rfl zan Tryd.underlying24 rfl zb) rfl ?_;exact⟨_,by first|rfl|(simp[errW_none,errW_some]<;>rfl)|(simp only[←L];first|rfl|(simp[errW_none,errW_some]<;>rfl))|(simp[*,errW_none,errW_some]<;>rfl),by(with_reducible repeat(first|apply Kd.R_alloc|apply Kd.R_drewN|apply Kd.R_drew));exact Kd.R_mono (Kd.R_far (p:=⟨J,2,none⟩) (Kd.R_far (p:=⟨J,1,none⟩) (Kd.R_far (p:=⟨J,0,none⟩) (Kd.R_types O.out D.out zc) (fun _ hk=>hk.2) (.int .i64 a0)) (fun _ hk=>hk.2) (.int .i64 a1)) (fun _ hk=>hk.2) (.slice Z Y.length aa)) (fun _ hk=>trivial),hbA HB.out⟩
  ·rw[if_neg c5]at H
   exact absurd H zd
 ·rw[if_neg c4]at H
  exact absurd H zd
mutual
def recoupref03_Mul.j0:Nat→Bool→Int→Int→List Int→Int→Int→List Int→Option (Int×Int×List Int×Int)
 |0,_,_,_,_,_,_,_=>none
 |k+1,X,D,J,L,O,G,U=>if X=true then(some (0,0,([]:List Int),3))else((recoupref03_Zero.f D G).bind fun I=>(recoupref03_Mul.l0 k 0 D J L O G U I.1 I.2.1 I.2.2))
def recoupref03_Mul.l0:Nat→Int→Int→Int→List Int→Int→Int→List Int→Int→Int→List Int→Option (Int×Int×List Int×Int)
 |0,_,_,_,_,_,_,_,_,_,_=>none
 |k+1,x7,D,L,O,U,X,Y,G,I,J=>if x7<D then(recoupref03_Mul.l1 k x7 0 D L O U X Y G I J)else(some (G,I,J,0))
def recoupref03_Mul.l1:Nat→Int→Int→Int→Int→List Int→Int→Int→List Int→Int→Int→List Int→Option (Int×Int×List Int×Int)
 |0,_,_,_,_,_,_,_,_,_,_,_=>none
 |k+1,x7,x8,G,I,J,L,D,O,U,X,Y=>if x8<D then(recoupref03_Mul.l2 k x7 x8 0 G I J L D O U X Y)else(recoupref03_Mul.l0 k (wrap64 (x7+1)) G I J L D O U X Y)
def recoupref03_Mul.l2:Nat→Int→Int→Int→Int→Int→List Int→Int→Int→List Int→Int→Int→List Int→Option (Int×Int×List Int×Int)
 |0,_,_,_,_,_,_,_,_,_,_,_,_=>none
 |k+1,x7,x8,x9,J,G,L,O,U,X,Y,D,I=>if x9<G then(if 0≤(wrap64 ((wrap64 (x7*D))+x8))then(if(wrap64 ((wrap64 (x7*D))+x8))<(I.length:Int)then((recoupref03_At.f J G L x7 x9).bind fun Z=>((recoupref03_At.f O U X x9 x8).bind fun aa=>((recoupref01_Mul.f k Z aa).bind fun ab=>(recoupref03_Mul.l2 k x7 x8 (wrap64 (x9+1)) J G L O U X Y D (I.set ((wrap64 ((wrap64 (x7*D))+x8)):Int).toNat (Go.bits .xor .u8 (rd I (wrap64 ((wrap64 (x7*D))+x8))) ab))))))else(none))else(none))else(recoupref03_Mul.l1 k x7 (wrap64 (x8+1)) J G L O U X Y D I)
end
def recoupref03_Mul.f(k:Nat)(I:Int)(D:Int)(L:List Int)(G:Int)(J:Int)(O:List Int):Option (Int×Int×List Int×Int):=(recoupref03_Right.f I D L).bind fun U=>(if U=true then((recoupref03_Right.f G J O).bind fun X=>(if X=true then(recoupref03_Mul.j0 k (D !=G) I D L G J O)else(recoupref03_Mul.j0 k true I D L G J O)))else(recoupref03_Mul.j0 k true I D L G J O))
def recoupref03_Mul.T13:Bool×List (List Nat×List Nat):=(true,[([],[]),([0],[0]),([],[]),([],[]),([3],[3]),([2,4],[2,4]),([],[]),([5,6],[5,6]),([1,7],[1,7]),([8],[8]),([],[]),([],[]),([],[]),([10,11,12],[10,11,12]),([],[]),([],[]),([],[]),([14,15,16,13],[14,15,16]),([13,17,17],[13,17]),([9,18],[9,18]),([1,7,0,1,2,3,4,5,6,7,8,9,10,11,12,13,14,15,16,17,18,19],[1,7]),([20,19,18,0,1,2,3,4,5,6,7,8,9,10,11,12,13,14,15,16,17,18,19],[19,20])])
def recoupref03_Mul.B13:List Nat:= [0,1,0,0,8,28,0,124,255,511,0,0,0,7168,0,0,0,130048,261120,524287,1048575,2097151]
theorem recoupref03_Mul.tab13:rtab .any (opsOf Tryd.f49 13)=recoupref03_Mul.T13:=by kernel_rfl
theorem recoupref03_Mul.bits13:waitsOk recoupref03_Mul.T13.2 recoupref03_Mul.B13=true:=by kernel_rfl
set_option maxHeartbeats 8000000 in
set_option maxRecDepth 100000 in
theorem recoupref03_Mul.calls(k:Nat)(O:Int)(U:Int)(az:Option Addr)(a0:Nat)(X:List Int)(af:Int)(aa:Int)(a3:Option Addr)(a4:Nat)(ab:List Int)(r1:Int)(r2:Int)(r3:List Int)(r4:Int)(w:World)(ed:Kd.C (Kd.int .u8) w az X.length X)(d5:X.length≤a0)(ee:Kd.C (Kd.int .u8) w a3 ab.length ab)(d6:ab.length≤a4)(h:recoupref03_Mul.f k O U X af aa ab=some (r1,r2,r3,r4)):
 Calls Tryd.prog 49 #[.agg #[.int .i64 O,.int .i64 U,.slice az X.length a0],.agg #[.int .i64 af,.int .i64 aa,.slice a3 ab.length a4]] w fun e w'=> ∃v2_:Value,e= .returned (.tuple #[.agg #[.int .i64 r1,.int .i64 r2,v2_],.int .i64 r4])∧Kd.R (Kd.int .u8) 5 w' w.heap.size (fun _=>True) v2_ r3∧Below w.heap.size w w':=by
 have kr:=Tryd.underlying24;have de:=aK ed;have dc:=aK d5;clear ed d5;have du:=aK ee;have dt:=aK d6;clear ee d6;have HB:=aK (Below.refl w.heap.size w);have H:((recoupref03_Right.f O U X).bind fun eh=>(if eh=true then((recoupref03_Right.f af aa ab).bind fun ei=>(if ei=true then(recoupref03_Mul.j0 k (U !=af) O U X af aa ab)else(recoupref03_Mul.j0 k true O U X af aa ab)))else(recoupref03_Mul.j0 k true O U X af aa ab)))=some (r1,r2,r3,r4):=h;clear h;have ex:=aK H;clear H
 go_enter Tryd.func49,Tryd.ntmps49
 go_upto_region 1 with(first|((with_reducible refine gD 2 rfl ?_);refine bE 2 #[.int .i64 O,.int .i64 U,.slice az X.length a0] 24 ?_;intro a1 hg w4 hbox hb;have D:=aK (hbox);have g3:=hbS HB hg;have gz:=hbS HB hg;replace HB:=hbB HB hb;clear hb hbox hg)|((with_reducible refine gD 3 rfl ?_);refine bE 3 #[.int .i64 af,.int .i64 aa,.slice a3 ab.length a4] 24 ?_;intro a2 hg w5 hbox hb;have G:=aK (hbox);have g4:=hbS HB hg;have g0:=hbS HB hg;replace HB:=hbB HB hb;have Y:=neL D hg;have Z:=neG D hg;replace D:=bkB D hb;clear hb hbox hg)|((with_reducible refine gD 4 rfl ?_);refine bE 4 #[.int .i64 0,.int .i64 0,.slice none 0 0] 24 ?_;intro ax hg w6 hbox hb;have I:=aK (hbox);have g5:=hbS HB hg;have g1:=hbS HB hg;replace HB:=hbB HB hb;have ac:=neL D hg;have ae:=neG D hg;replace D:=bkB D hb;have ai:=neL G hg;have ak:=neG G hg;replace G:=bkB G hb;clear hb hbox hg))
 (try simp only[Act.put,zL])
 go_cut [24] (fun kk wc=> ∃(kq:Nat) (df:Bool),kk= .bool df∧Aside0 (recoupref03_Mul.j0 kq df O U X af aa ab=some (r1,r2,r3,r4))∧Aside0 (kq≤k)∧Aside0 (wc.heap[a1]? =some (.cells #[.int .i64 O,.int .i64 U,(.slice az X.length a0)] 24 (0,0)))∧Aside0 (wc.heap[a2]? =some (.cells #[.int .i64 af,.int .i64 aa,(.slice a3 ab.length a4)] 24 (0,0)))∧Aside0 (wc.heap[ax]? =some (.cells #[.int .i64 0,.int .i64 0,(.slice none 0 0)] 24 (0,0)))∧Aside0 (Below w.heap.size w wc))
 case first=>
  have H:=ex.out;clear ex;obtain⟨eh,A7,H⟩:=bindO H
  (try dsimp only at H)
  by_cases c8:eh=true
  ·subst c8;rw[if_pos rfl]at H
   obtain⟨ei,A9,H⟩:=bindO H
   (try dsimp only at H)
   by_cases dg:ei=true
   ·subst dg;rw[if_pos rfl]at H
    have H':=aK H;clear H;have ib:=Y.out;have ji:=Z.out;have ic:=ac.out;have jj:=ae.out;obtain⟨a5,a6,a7,bq,br,bs⟩:=cell3 D
    go_wp2_with (first|((with_reducible refine gC 37 rfl ?_);refine cG (some 11) Tryd.func37 #[.agg #[.int .i64 O,.int .i64 U,.slice az X.length a0]] ?_;(with_reducible refine(recoupref03_Right.calls O U _ _ X true _ ?side1 ?side2 A7.out).mono ?_);(case side1=>exact kcB de HB);(case side2=>exact dc.out);rintro e kw ⟨rfl,hb⟩;refine⟨_,rfl,?_⟩;replace D:=bkB D hb;replace G:=bkB G hb;replace I:=bkB I hb;replace HB:=hbB HB hb;(try clear hb);have ie:=ai.out;have jk:=ak.out;obtain⟨a8,a9,ba,bt,bu,bv⟩:=cell3 G)|(go_at_call 37;(with_reducible refine(recoupref03_Right.calls af aa _ _ ab true _ ?side1 ?side2 A9.out).mono ?_);(case side1=>exact kcB du HB);(case side2=>exact dt.out);rintro e kx ⟨rfl,hb⟩;replace D:=bkB D hb;replace G:=bkB G hb;replace I:=bkB I hb;replace HB:=hbB HB hb;(try clear hb);obtain⟨bb,bc,bd,bw,bx,bz⟩:=cell3 D;obtain⟨be,bf,bg,b0,b1,b2⟩:=cell3 G))
    go_meet
    case rel=>exact⟨_,((U !=af)),rsE,H',⟨leE⟩,⟨bkA D.out⟩,⟨bkA G.out⟩,⟨bkA I.out⟩,⟨hbA HB.out⟩⟩
   ·replace dg:=Bool.eq_false_iff.mpr dg;subst dg;rw[if_neg nofT]at H
    have H':=aK H;clear H;have ig:=Y.out;have jl:=Z.out;have ii:=ac.out;have jm:=ae.out;obtain⟨bh,bi,bj,b3,b4,b5⟩:=cell3 D
    go_wp2_with (first|((with_reducible refine gC 37 rfl ?_);refine cG (some 11) Tryd.func37 #[.agg #[.int .i64 O,.int .i64 U,.slice az X.length a0]] ?_;(with_reducible refine(recoupref03_Right.calls O U _ _ X true _ ?side1 ?side2 A7.out).mono ?_);(case side1=>exact kcB de HB);(case side2=>exact dc.out);rintro e ky ⟨rfl,hb⟩;refine⟨_,rfl,?_⟩;replace D:=bkB D hb;replace G:=bkB G hb;replace I:=bkB I hb;replace HB:=hbB HB hb;(try clear hb);have ij:=ai.out;have jn:=ak.out;obtain⟨bk,bl,bm,b6,b7,b8⟩:=cell3 G)|(go_at_call 37;(with_reducible refine(recoupref03_Right.calls af aa _ _ ab false _ ?side1 ?side2 A9.out).mono ?_);(case side1=>exact kcB du HB);(case side2=>exact dt.out);rintro e kz ⟨rfl,hb⟩;replace D:=bkB D hb;replace G:=bkB G hb;replace I:=bkB I hb;replace HB:=hbB HB hb;(try clear hb)))
    go_meet
    case rel=>exact⟨_,(true),rsE,H',⟨leE⟩,⟨bkA D.out⟩,⟨bkA G.out⟩,⟨bkA I.out⟩,⟨hbA HB.out⟩⟩
  ·replace c8:=Bool.eq_false_iff.mpr c8;subst c8;rw[if_neg nofT]at H
   have H':=aK H;clear H;have ik:=Y.out;have jo:=Z.out;have il:=ac.out;have jp:=ae.out;obtain⟨bn,bo,bp,b9,ca,cb⟩:=cell3 D
   go_wp2_with (first|((with_reducible refine gC 37 rfl ?_);refine cG (some 11) Tryd.func37 #[.agg #[.int .i64 O,.int .i64 U,.slice az X.length a0]] ?_;(with_reducible refine(recoupref03_Right.calls O U _ _ X false _ ?side1 ?side2 A7.out).mono ?_);(case side1=>exact kcB de HB);(case side2=>exact dc.out);rintro e k0 ⟨rfl,hb⟩;refine⟨_,rfl,?_⟩;replace D:=bkB D hb;replace G:=bkB G hb;replace I:=bkB I hb;replace HB:=hbB HB hb;(try clear hb)))
   go_meet
   case rel=>exact⟨_,(true),rsE,H',⟨leE⟩,⟨bkA D.out⟩,⟨bkA G.out⟩,⟨bkA I.out⟩,⟨hbA HB.out⟩⟩
 case rest=>
  clear ex
  (try clear c1);(try clear c2);(try clear p2);(try clear c3);(try clear c4);(try clear c8);(try clear dg);(try clear ez);(try clear e0);(try clear e1);(try clear e2);(try clear e3);(try clear e4);(try clear e5);(try clear e6);(try clear a5 a6 a7 bq br bs);(try clear a8 a9 ba bt bu bv);(try clear bb bc bd bw bx bz);(try clear be bf bg b0 b1 b2);(try clear bh bi bj b3 b4 b5);(try clear bk bl bm b6 b7 b8);(try clear bn bo bp b9 ca cb)
  obtain⟨kq,df,rfl,HA,dz,D,G,I,HB⟩:=hcut
  cases kq with
  |zero=>exact absurd HA.out (by simp[recoupref03_Mul.j0])
  |succ gs=>
   have H:=HA.out;clear HA;simp only[recoupref03_Mul.j0]at H;by_cases dv:df=true
   ·subst dv;rw[if_pos rfl]at H
    simp only[Option.some.injEq,Prod.mk.injEq]at H;obtain⟨rfl,rfl,rfl,rfl⟩:=H;have im:=ae.out;have jq:=ac.out;have io:=ak.out;have jr:=ai.out;obtain⟨ce,cf,cg,cq,cr,ct⟩:=cell3 I;go_wp2;refine bodyPost_ret (results_ct rfl _ _ ax 24 #[.int .i64 0,.int .i64 0,.slice none 0 0] (0,0) _ rfl zaq Tryd.underlying24 rfl zb) rfl ?_;exact⟨_,rfE,nilE,hbA HB.out⟩
   ·replace dv:=Bool.eq_false_iff.mpr dv;subst dv;rw[if_neg nofT]at H
    obtain⟨⟨am,an,dy⟩,gv,H⟩:=bindO H
    (try dsimp only at H)
    have H':=aK H;clear H;have ip:=Y.out;have js:=Z.out;have iq:=ac.out;have jt:=ae.out;obtain⟨ch,ci,cj,cu,cv,cw⟩:=cell3 D;have ir:=ai.out;have ju:=ak.out;obtain⟨ck,cl,cm,cx,cy,cz⟩:=cell3 G
    go_wp2_with (first|((with_reducible refine gC 43 rfl ?_);refine cG (some 30) Tryd.func43 #[.int .i64 O,.int .i64 aa] ?_;(with_reducible refine(recoupref03_Zero.calls O aa am an dy _ gv.out).mono ?_);rintro e k1 ⟨ks,rfl,gr,hb⟩;refine⟨_,rfl,?_⟩;have dd:=aK (Kd.R_lower gr (below_size (hbA HB.out)));replace D:=bkB D hb;replace G:=bkB G hb;replace I:=bkB I hb;replace HB:=hbB HB hb;(try clear hb);(try clear gr))|((with_reducible refine gD 6 rfl ?_);refine bE 6 #[.int .i64 0,.int .i64 0,.slice none 0 0] 24 ?_;intro ay hg k5 hbox hb;replace dd:=kdB dd hb;have L:=aK (hbox);have g6:=hbS HB hg;have g2:=hbS HB hg;replace HB:=hbB HB hb;have ag:=neL D hg;have aq:=neG D hg;replace D:=bkB D hb;have aj:=neL G hg;have aw:=neG G hg;replace G:=bkB G hb;have ap:=neL I hg;have cd:=neG I hg;replace I:=bkB I hb;clear hb hbox hg;have it:=aq.out;have jv:=ag.out;have iu:=aw.out;have jw:=aj.out;have iv:=cd.out;have jx:=ap.out;obtain⟨cn,co,cp,c6,c7,c9⟩:=cell3 L;obtain⟨em,ep,fi⟩:=Kd.R_slice dd.out;subst fi))
    go_loopg [7] gs (fun kq v7 w'=> ∃(ao:Int) (al:List Int) (u537002:Value),v7= .int .i64 ao∧Aside0 (recoupref03_Mul.l0 kq ao O U X af aa ab am an al=some (r1,r2,r3,r4))∧Aside0 (kq≤gs)∧Aside0 (Kd.R (Kd.int .u8) 5 w' w.heap.size (fun _=>True) u537002 al)∧Aside0 (w'.heap[a1]? =some (.cells #[.int .i64 O,.int .i64 U,(.slice az X.length a0)] 24 (0,0)))∧Aside0 (w'.heap[a2]? =some (.cells #[.int .i64 af,.int .i64 aa,(.slice a3 ab.length a4)] 24 (0,0)))∧Aside0 (w'.heap[ax]? =some (.cells #[.int .i64 0,.int .i64 0,(.slice none 0 0)] 24 (0,0)))∧Aside0 (w'.heap[ay]? =some (.cells #[.int .i64 am,.int .i64 an,u537002] 24 (0,0)))∧Aside0 (Below w.heap.size w w'))
    case atStart=>exact⟨(0),(dy),(.slice em dy.length ep),rsE,H',⟨Nat.le_refl _⟩,⟨by(with_reducible repeat(first|apply Kd.R_alloc|apply Kd.R_drewN|apply Kd.R_drew));exact Kd.R_mono (Kd.R_far (p:=⟨ay,2,none⟩) (Kd.R_far (p:=⟨ay,1,none⟩) (Kd.R_far (p:=⟨ay,0,none⟩) (Kd.R_types dd.out L.out zc) (fun _ hk=>hk.2) (.int .i64 am)) (fun _ hk=>hk.2) (.int .i64 an)) (fun _ hk=>hk.2) (.slice em dy.length ep)) (fun _ hk=>trivial)⟩,⟨by refine bkR ?_;refine blk_far ?_ ag.out _;refine bkR ?_;refine blk_far ?_ ag.out _;refine bkR ?_;refine blk_far ?_ ag.out _;refine bkR ?_;exact D.out⟩,⟨by refine bkR ?_;refine blk_far ?_ aj.out _;refine bkR ?_;refine blk_far ?_ aj.out _;refine bkR ?_;refine blk_far ?_ aj.out _;refine bkR ?_;exact G.out⟩,⟨by refine bkR ?_;refine blk_far ?_ ap.out _;refine bkR ?_;refine blk_far ?_ ap.out _;refine bkR ?_;refine blk_far ?_ ap.out _;refine bkR ?_;exact I.out⟩,⟨by refine bkR ?_;refine blk_put (cs:= #[.int .i64 am,.int .i64 an,.slice none 0 0]) ?_ 2 _ rfl;refine bkR ?_;refine blk_put (cs:= #[.int .i64 am,.int .i64 0,.slice none 0 0]) ?_ 1 _ rfl;refine bkR ?_;refine blk_put (cs:= #[.int .i64 0,.int .i64 0,.slice none 0 0]) ?_ 0 _ rfl;refine bkR ?_;exact L.out⟩,⟨hbA HB.out⟩⟩
    case round=>
     clear H'
     (try clear c1);(try clear c2);(try clear p2 p2);(try clear c3);(try clear c4);(try clear c8);(try clear dg);(try clear ez);(try clear e0);(try clear e1);(try clear e2);(try clear e3);(try clear e4);(try clear e5);(try clear e6);(try clear dv);(try clear e9);(try clear fa);(try clear fb);(try clear fc);(try clear fd);(try clear fe);(try clear ff);(try clear fg);(try clear a5 a6 a7 bq br bs);(try clear a8 a9 ba bt bu bv);(try clear bb bc bd bw bx bz);(try clear be bf bg b0 b1 b2);(try clear bh bi bj b3 b4 b5);(try clear bk bl bm b6 b7 b8);(try clear bn bo bp b9 ca cb);(try clear ce cf cg cq cr ct);(try clear ch ci cj cu cv cw);(try clear ck cl cm cx cy cz);(try clear cn co cp c6 c7 c9)
     obtain⟨ao,al,u537002,rfl,HA,d0,HO_537002,D,G,I,L,HB⟩:=hrel
     cases gk with
     |zero=>exact absurd HA.out (by simp[recoupref03_Mul.l0])
     |succ k2=>
      have H:=HA.out;clear HA;simp only[recoupref03_Mul.l0]at H;by_cases dh:ao<O
      ·rw[if_pos dh]at H
       have c48b0:decide (ao<O)=true:=decide_eq_true dh;clear dh;have H':=aK H;clear H;have iw:=Y.out;have jy:=Z.out;have ix:=ac.out;have jz:=ae.out;have iy:=ag.out;have j1:=aq.out;obtain⟨di,dj,dk,dl,dm,dn⟩:=cell3 D;go_wp2
       go_loopg [8] k2 (fun kq v8 w'=> ∃(au:Int) (ar:List Int) (u537002:Value),v8= .int .i64 au∧Aside0 (recoupref03_Mul.l1 kq ao au O U X af aa ab am an ar=some (r1,r2,r3,r4))∧Aside0 (kq≤k2)∧Aside0 (Kd.R (Kd.int .u8) 5 w' w.heap.size (fun _=>True) u537002 ar)∧Aside0 (w'.heap[a1]? =some (.cells #[.int .i64 O,.int .i64 U,(.slice az X.length a0)] 24 (0,0)))∧Aside0 (w'.heap[a2]? =some (.cells #[.int .i64 af,.int .i64 aa,(.slice a3 ab.length a4)] 24 (0,0)))∧Aside0 (w'.heap[ax]? =some (.cells #[.int .i64 0,.int .i64 0,(.slice none 0 0)] 24 (0,0)))∧Aside0 (w'.heap[ay]? =some (.cells #[.int .i64 am,.int .i64 an,u537002] 24 (0,0)))∧Aside0 (Below w.heap.size w w'))
       case atStart=>exact⟨(0),(al),(u537002),rsE,H',⟨Nat.le_refl _⟩,⟨kdA HO_537002.out⟩,⟨bkA D.out⟩,⟨bkA G.out⟩,⟨bkA I.out⟩,⟨bkA L.out⟩,⟨hbA HB.out⟩⟩
       case round=>
        clear H'
        (try clear c1);(try clear c2);(try clear p2 p2);(try clear c3);(try clear c4);(try clear c5);(try clear c8);(try clear dg);(try clear ez);(try clear e0);(try clear e1);(try clear e2);(try clear e3);(try clear e4);(try clear e5);(try clear e6);(try clear dv);(try clear e9);(try clear fa);(try clear fb);(try clear fc);(try clear fd);(try clear fe);(try clear ff);(try clear fg);(try clear dh);(try clear c48b0);(try clear g7);(try clear g8);(try clear g9);(try clear a5 a6 a7 bq br bs);(try clear a8 a9 ba bt bu bv);(try clear bb bc bd bw bx bz);(try clear be bf bg b0 b1 b2);(try clear bh bi bj b3 b4 b5);(try clear bk bl bm b6 b7 b8);(try clear bn bo bp b9 ca cb);(try clear ce cf cg cq cr ct);(try clear ch ci cj cu cv cw);(try clear ck cl cm cx cy cz);(try clear cn co cp c6 c7 c9);(try clear di dj dk dl dm dn)
        obtain⟨au,ar,u537002,rfl,HA,d1,HO_537002,D,G,I,L,HB⟩:=hrel
        cases gk with
        |zero=>exact absurd HA.out (by simp[recoupref03_Mul.l1])
        |succ k3=>
         have H:=HA.out;clear HA;simp only[recoupref03_Mul.l1]at H;by_cases dw:au<aa
         ·rw[if_pos dw]at H
          have c53b0:decide (au<aa)=true:=decide_eq_true dw;clear dw;have H':=aK H;clear H;have iz:=Z.out;have j2:=Y.out;have i1:=ai.out;have j3:=ak.out;have i2:=aj.out;have j4:=aw.out;obtain⟨d7,d8,d9,ea,eb,ec⟩:=cell3 G;go_wp2
          go_loopg [9] k3 (fun kq v9 w'=> ∃(av:Int) (J:List Int) (u537002:Value),v9= .int .i64 av∧Aside0 (recoupref03_Mul.l2 kq ao au av O U X af aa ab am an J=some (r1,r2,r3,r4))∧Aside0 (kq≤k3)∧Aside0 (Kd.R (Kd.int .u8) 5 w' w.heap.size (fun _=>True) u537002 J)∧Aside0 (w'.heap[a1]? =some (.cells #[.int .i64 O,.int .i64 U,(.slice az X.length a0)] 24 (0,0)))∧Aside0 (w'.heap[a2]? =some (.cells #[.int .i64 af,.int .i64 aa,(.slice a3 ab.length a4)] 24 (0,0)))∧Aside0 (w'.heap[ax]? =some (.cells #[.int .i64 0,.int .i64 0,(.slice none 0 0)] 24 (0,0)))∧Aside0 (w'.heap[ay]? =some (.cells #[.int .i64 am,.int .i64 an,u537002] 24 (0,0)))∧Aside0 (Below w.heap.size w w'))
          case atStart=>exact⟨(0),(ar),(u537002),rsE,H',⟨Nat.le_refl _⟩,⟨kdA HO_537002.out⟩,⟨bkA D.out⟩,⟨bkA G.out⟩,⟨bkA I.out⟩,⟨bkA L.out⟩,⟨hbA HB.out⟩⟩
          case round=>
           clear H'
           (try clear c1);(try clear c2);(try clear p2 p2);(try clear c3);(try clear c4);(try clear c5);(try clear c8);(try clear dg);(try clear ez);(try clear e0);(try clear e1);(try clear e2);(try clear e3);(try clear e4);(try clear e5);(try clear e6);(try clear dv);(try clear e9);(try clear fa);(try clear fb);(try clear fc);(try clear fd);(try clear fe);(try clear ff);(try clear fg);(try clear dh);(try clear c48b0);(try clear g7);(try clear g8);(try clear g9);(try clear dw);(try clear c53b0);(try clear kt);(try clear ku);(try clear kv);(try clear a5 a6 a7 bq br bs);(try clear a8 a9 ba bt bu bv);(try clear bb bc bd bw bx bz);(try clear be bf bg b0 b1 b2);(try clear bh bi bj b3 b4 b5);(try clear bk bl bm b6 b7 b8);(try clear bn bo bp b9 ca cb);(try clear ce cf cg cq cr ct);(try clear ch ci cj cu cv cw);(try clear ck cl cm cx cy cz);(try clear cn co cp c6 c7 c9);(try clear di dj dk dl dm dn);(try clear d7 d8 d9 ea eb ec)
           obtain⟨av,J,u537002,rfl,HA,ej,HO_537002,D,G,I,L,HB⟩:=hrel
           cases gk with
           |zero=>exact absurd HA.out (by simp[recoupref03_Mul.l2])
           |succ k4=>
            have H:=HA.out;clear HA;simp only[recoupref03_Mul.l2]at H;by_cases d2:av<U
            ·rw[if_pos d2]at H
             have c58b0:decide (av<U)=true:=decide_eq_true d2;clear d2;obtain⟨ah,dx⟩: ∃j_:Int,(wrap64 ((wrap64 (ao*an))+au))=j_:=⟨_,rfl⟩
             replace H:(if 0≤(ah)then(if(ah)<(J.length:Int)then((recoupref03_At.f O U X ao av).bind fun dp=>((recoupref03_At.f af aa ab av au).bind fun dq=>((recoupref01_Mul.f k4 dp dq).bind fun dr=>(recoupref03_Mul.l2 k4 ao au (wrap64 (av+1)) O U X af aa ab am an (J.set ((ah):Int).toNat (Go.bits .xor .u8 (rd J (ah)) dr))))))else(none))else(none))=some (r1,r2,r3,r4):=by first|(rw[dx]at H;exact H)|(simp only[dx]at H⊢;exact H)
             have hji59w:(IntKind.i64.wrap ((wrap64 (ao*an))+au))=ah:=(i64_w _).trans dx;by_cases ek:0≤(ah)
             ·rw[if_pos ek]at H
              have c60b0:decide (0≤(ah))=true:=decide_eq_true ek;clear ek;by_cases el:(ah)<(J.length:Int)
              ·rw[if_pos el]at H
               have c61b0:decide ((ah)<(J.length:Int))=true:=decide_eq_true el;clear el;obtain⟨dp,gw,H⟩:=bindO H
               (try dsimp only at H)
               obtain⟨dq,gx,H⟩:=bindO H
               (try dsimp only at H)
               obtain⟨dr,gy,H⟩:=bindO H
               (try dsimp only at H)
               obtain⟨ew,db⟩: ∃y_:List Int,y_=(J.set ((ah):Int).toNat (Go.bits .xor .u8 (rd J (ah)) dr)):=⟨_,rfl⟩
               replace H:(recoupref03_Mul.l2 k4 ao au (wrap64 (av+1)) O U X af aa ab am an ew)=some (r1,r2,r3,r4):=by first|(rw[db];with_reducible exact H)|(have H2_:=(Option.bind_some _ _).symm.trans H;rw[db];with_reducible exact H2_)|(have H2_:=(Option.bind_some _ _).symm.trans H;with_reducible exact H2_)|with_reducible exact H|(rw[db];exact H)|exact H
               have ey:=aK db;clear db;have H':=aK H;clear H;have i3:=Y.out;have j5:=Z.out;have i4:=ac.out;have j6:=ae.out;have i5:=ag.out;have j7:=aq.out;obtain⟨fm,fo,fp,f6,f7,f8⟩:=cell3 D
               try go_wp2
               replace HO_537002:=aK (Kd.R_drew HO_537002.out);replace D:=aK (blk_drew D.out);replace G:=aK (blk_drew G.out);replace I:=aK (blk_drew I.out);replace L:=aK (blk_drew L.out);replace HB:=aK (below_drew1 HB.out);obtain⟨kl,er,eu⟩:=Kd.R_slice HO_537002.out
               (first|subst eu|(injection eu with f1_ f2_ f3_;have f4_:=f1_.symm;have f5_:=f3_.symm;clear f1_ f2_ f3_;subst f4_;subst f5_))
               have ef:0≤((ah):Int):=of_decide_eq_true asE;have eg:(ah)<(J.length:Int):=of_decide_eq_true asE;obtain⟨d4,fh,da⟩:=Kd.at_int (Kd.R_reads' HO_537002.out).2.2 (ah) ef eg
               cases fh
               replace ef:=eq_true ef;replace eg:=eq_true eg;refine start_ (n:=22) (S:=fun w'=>w'.cell? ⟨ay,0,none⟩=some (.int .i64 am)∧w'.cell? ⟨ay,1,none⟩=some (.int .i64 an)∧w'.cell? ⟨ay,2,none⟩=some (.slice (some d4) J.length er)∧w'.cell? ⟨a1,0,none⟩=some (.int .i64 O)∧w'.cell? ⟨a1,1,none⟩=some (.int .i64 U)∧w'.cell? ⟨a1,2,none⟩=some (.slice az X.length a0)∧w'.cell? ⟨a2,0,none⟩=some (.int .i64 af)∧w'.cell? ⟨a2,1,none⟩=some (.int .i64 aa)∧w'.cell? ⟨a2,2,none⟩=some (.slice a3 ab.length a4)∧w'.cell? (d4.add ((ah)).toNat)=some (.int .u8 (rd J (ah)))) (ds:= [21]) (.replicate 22 false) zb rfl rfl ⟨(blk_cell L.out 0).trans rfl,(blk_cell L.out 1).trans rfl,(blk_cell L.out 2).trans rfl,(blk_cell D.out 0).trans rfl,(blk_cell D.out 1).trans rfl,(blk_cell D.out 2).trans rfl,(blk_cell G.out 0).trans rfl,(blk_cell G.out 1).trans rfl,(blk_cell G.out 2).trans rfl,da⟩ (fun hHeld=>?_);refine with_tabW recoupref03_Mul.tab13 recoupref03_Mul.bits13 (fun HT_ HW_=>?_);generalize wr.drew=k6 at HO_537002 D G I L HB da hHeld⊢;refine pu 0 (some 49) (mB 22 1) HT_ ?_;refine pu 2 (some 51) (mB 22 5) HT_ ?_;refine pu 3 (some 52) (mB 22 13) HT_ ?_;refine pu 6 (some 55) (mB 22 77) HT_ ?_;refine pu 11 (some 60) (mB 22 2125) HT_ ?_;refine pu 12 (some 61) (mB 22 6221) HT_ ?_;refine pu 15 (some 64) (mB 22 38989) HT_ ?_;refine pu 16 (some 65) (mB 22 104525) HT_ ?_;refine tk10 1 (some 50) (mB 22 104527) HT_ HW_ hHeld ?_;refine tk10 4 (some 53) (mB 22 104543) HT_ HW_ hHeld ?_;refine pu 5 (some 54) (mB 22 104575) HT_ ?_;refine pu 7 (some 56) (mB 22 104703) HT_ ?_;refine pu 8 (some 57) (mB 22 104959) HT_ ?_;refine tk10 9 (some 58) (mB 22 105471) HT_ HW_ hHeld ?_;refine tk10 10 (some 59) (mB 22 106495) HT_ HW_ hHeld ?_;refine tk10 14 (some 63) (mB 22 122879) HT_ HW_ hHeld ?_;refine zoh 13 (some 62) (mB 22 131071) HT_ fun K hK=>?_;refine goes_ Tryd.func40 zb rfl #[.agg #[.int .i64 O,.int .i64 U,.slice az X.length a0],.int .i64 ao,.int .i64 av] ze rfl rfl (by(try simp only[List.map_toArray,List.map_cons,List.map_nil]);first|done|rfl|(simp only[List.length_drop,List.length_take];rfl)) ?_;with_reducible refine(recoupref03_At.calls O U _ _ X ao av dp _ ?side1 ?side2 gw.out).mono ?_
               (case side1=>exact kcB de HB)
               (case side2=>exact dc.out)
               rintro e k7 ⟨rfl,hb⟩;have HS9_:=(hb.cell (World.block_lt_of_cell? _ _ (hHeld.2.2.2.2.2.2.2.2.2))).trans (hHeld.2.2.2.2.2.2.2.2.2);refine⟨_,rfl,?_⟩;replace HO_537002:=kdB HO_537002 hb;replace D:=bkB D hb;replace G:=bkB G hb;replace I:=bkB I hb;replace L:=bkB L hb;replace HB:=hbB HB hb
               (try clear hb)
               (try clear ia)
               (try clear hk)
               (try clear hi)
               refine hK.out _ _ ⟨(blk_cell L.out 0).trans rfl,(blk_cell L.out 1).trans rfl,(blk_cell L.out 2).trans rfl,(blk_cell D.out 0).trans rfl,(blk_cell D.out 1).trans rfl,(blk_cell D.out 2).trans rfl,(blk_cell G.out 0).trans rfl,(blk_cell G.out 1).trans rfl,(blk_cell G.out 2).trans rfl,HS9_⟩ (fun hHeld=>?_);clear hK K;refine znm (some 62) ?_;refine zoh 17 (some 66) (mB 22 262143) HT_ fun K hK=>?_;refine goes_ Tryd.func40 zb rfl #[.agg #[.int .i64 af,.int .i64 aa,.slice a3 ab.length a4],.int .i64 av,.int .i64 au] ze rfl rfl (by(try simp only[List.map_toArray,List.map_cons,List.map_nil]);first|done|rfl|(simp only[List.length_drop,List.length_take];rfl)) ?_;with_reducible refine(recoupref03_At.calls af aa _ _ ab av au dq _ ?side1 ?side2 gx.out).mono ?_
               (case side1=>exact kcB du HB)
               (case side2=>exact dt.out)
               rintro e k8 ⟨rfl,hb⟩;have HS9_:=(hb.cell (World.block_lt_of_cell? _ _ (hHeld.2.2.2.2.2.2.2.2.2))).trans (hHeld.2.2.2.2.2.2.2.2.2);refine⟨_,rfl,?_⟩;replace HO_537002:=kdB HO_537002 hb;replace D:=bkB D hb;replace G:=bkB G hb;replace I:=bkB I hb;replace L:=bkB L hb;replace HB:=hbB HB hb
               (try clear hb)
               (try clear ia)
               (try clear hk)
               (try clear hi)
               refine hK.out _ _ ⟨(blk_cell L.out 0).trans rfl,(blk_cell L.out 1).trans rfl,(blk_cell L.out 2).trans rfl,(blk_cell D.out 0).trans rfl,(blk_cell D.out 1).trans rfl,(blk_cell D.out 2).trans rfl,(blk_cell G.out 0).trans rfl,(blk_cell G.out 1).trans rfl,(blk_cell G.out 2).trans rfl,HS9_⟩ (fun hHeld=>?_);clear hK K;refine znm (some 66) ?_;refine zoh 18 (some 67) (mB 22 524287) HT_ fun K hK=>?_;refine goes_ Tryd.func62 zb rfl #[.int .u8 dp,.int .u8 dq] ze rfl rfl (by(try simp only[List.map_toArray,List.map_cons,List.map_nil]);first|done|rfl|(simp only[List.length_drop,List.length_take];rfl)) ?_;with_reducible refine(recoupref01_Mul.calls k4 dp dq dr _ gy.out).mono ?_
               rintro e w' ⟨rfl,⟨nd,rfl⟩⟩;refine⟨_,rfl,?_⟩;have p65:0≤((ah):Int):=of_decide_eq_true asE;have e7:((ah):Int)<((J.length:Int):Int):=of_decide_eq_true asE;obtain⟨fl,kp,et,ev,fk,ko,eo⟩:=Kd.R_form HO_537002.out za
               (first|cases et|(injection et with ea_ en_ ec_;(first|subst ea_|(injection ea_ with ea_;subst ea_));subst ec_;clear en_))
               have km:=aK ev;have kn:=aK eo;clear ev fk eo
               (first|simp only[add_plain]at da|skip)
               obtain⟨gu,gt⟩:=Kd.R_celln 0 HO_537002.out ((ah):Int) p65 e7;replace p65:=eq_true p65;replace e7:=eq_true e7;have d3:=Kd.R_putn HO_537002.out ((ah):Int) (Go.bits .xor .u8 (rd J (ah)) dr);rw[←ey.out]at d3
               have e8:=aK d3;clear d3;refine hK.out _ _ ⟨(blk_cell L.out 0).trans rfl,(blk_cell L.out 1).trans rfl,(blk_cell L.out 2).trans rfl,(blk_cell D.out 0).trans rfl,(blk_cell D.out 1).trans rfl,(blk_cell D.out 2).trans rfl,(blk_cell G.out 0).trans rfl,(blk_cell G.out 1).trans rfl,(blk_cell G.out 2).trans rfl,hHeld.2.2.2.2.2.2.2.2.2⟩ (fun hHeld=>?_);clear hK K;refine znm (some 67) ?_;refine pu 19 (some 68) (mB 22 1048575) HT_ ?_;refine pu 20 (some 69) (mB 22 2097151) HT_ ?_;refine zlh 21 (none) (mB 22 4194303) HT_ fun K hK=>?_;refine zsk ?_;refine hK.out _ _ ?_;clear hK K;refine done_ (done_of HT_.out zb) ?_
               try go_wp2
               go_roundg k4
               case measure=>have:=dz.out;have:=d0.out;have:=d1.out;have:=ej.out;omega
               case rel=>exact⟨(wrap64 (av+1)),(ew),(.slice (some ⟨fl,0,none⟩) J.length er),rsE,H',⟨by have:=dz.out;have:=d0.out;have:=d1.out;have:=ej.out;omega⟩,⟨kdA e8.out⟩,⟨by refine bkR ?_;refine blk_far ?_ (by have h_:=Kd.R_ne HO_537002.out D.out zc;intro e_;exact h_ zk) _;refine bkR ?_;exact D.out⟩,⟨by refine bkR ?_;refine blk_far ?_ (by have h_:=Kd.R_ne HO_537002.out G.out zc;intro e_;exact h_ zk) _;refine bkR ?_;exact G.out⟩,⟨by refine bkR ?_;refine blk_far ?_ (by have h_:=Kd.R_ne HO_537002.out I.out zc;intro e_;exact h_ zk) _;refine bkR ?_;exact I.out⟩,⟨by refine bkR ?_;refine blk_far ?_ (by have h_:=Kd.R_ne HO_537002.out L.out zc;intro e_;exact h_ zk) _;refine bkR ?_;exact L.out⟩,⟨hbA HB.out⟩⟩
              ·rw[if_neg el]at H
               exact absurd H zd
             ·rw[if_neg ek]at H
              exact absurd H zd
            ·rw[if_neg d2]at H
             have c58b0:decide (av<U)=false:=decide_eq_false d2;clear d2;have H':=aK H;clear H;have i6:=Y.out;have j8:=Z.out;have i7:=ac.out;have j9:=ae.out;have i8:=ag.out;have ka:=aq.out;obtain⟨fq,fs,ft,f9,ga,gb⟩:=cell3 D;go_wp2
             go_roundg k4
             case measure=>have:=dz.out;have:=d0.out;have:=d1.out;have:=ej.out;omega
             case rel=>exact⟨(wrap64 (au+1)),(J),(u537002),rsE,H',⟨by have:=dz.out;have:=d0.out;have:=d1.out;have:=ej.out;omega⟩,⟨kdA HO_537002.out⟩,⟨bkA D.out⟩,⟨bkA G.out⟩,⟨bkA I.out⟩,⟨bkA L.out⟩,⟨hbA HB.out⟩⟩
         ·rw[if_neg dw]at H
          have c53b0:decide (au<aa)=false:=decide_eq_false dw;clear dw;have H':=aK H;clear H;have i9:=Z.out;have kb:=Y.out;have ja:=ai.out;have kc:=ak.out;have jb:=aj.out;have kd:=aw.out;obtain⟨fu,fv,fw,gc,ge,gf⟩:=cell3 G;go_wp2
          go_roundg k3
          case measure=>have:=dz.out;have:=d0.out;have:=d1.out;omega
          case rel=>exact⟨(wrap64 (ao+1)),(ar),(u537002),rsE,H',⟨by have:=dz.out;have:=d0.out;have:=d1.out;omega⟩,⟨kdA HO_537002.out⟩,⟨bkA D.out⟩,⟨bkA G.out⟩,⟨bkA I.out⟩,⟨bkA L.out⟩,⟨hbA HB.out⟩⟩
      ·rw[if_neg dh]at H
       have c48b0:decide (ao<O)=false:=decide_eq_false dh;clear dh;simp only[Option.some.injEq,Prod.mk.injEq]at H;obtain⟨rfl,rfl,rfl,rfl⟩:=H;have jc:=Y.out;have ke:=Z.out;have jd:=ac.out;have kf:=ae.out;have je:=ag.out;have kg:=aq.out;obtain⟨fx,fy,fz,gg,gh,gi⟩:=cell3 D;have jf:=aw.out;have kh:=aj.out;have jg:=cd.out;have ki:=ap.out;obtain⟨f0,f1,f2,gj,gl,gm⟩:=cell3 L;have jh:=ak.out;have kj:=ai.out;obtain⟨f3,f4,f5,gn,gp,gq⟩:=cell3 I;obtain⟨en,es,fj⟩:=Kd.R_slice HO_537002.out;subst fj;go_wp2;refine bodyPost_ret (results_ct rfl _ _ ax 24 #[.int .i64 am,.int .i64 an,.slice en al.length es] (0,0) _ rfl (by refine bkR ?_;refine blk_put (cs:= #[.int .i64 am,.int .i64 an,.slice none 0 0]) ?_ 2 _ rfl;refine bkR ?_;refine blk_put (cs:= #[.int .i64 am,.int .i64 0,.slice none 0 0]) ?_ 1 _ rfl;refine bkR ?_;refine blk_put (cs:= #[.int .i64 0,.int .i64 0,.slice none 0 0]) ?_ 0 _ rfl;refine bkR ?_;exact I.out) Tryd.underlying24 rfl zb) rfl ?_;exact⟨_,rfE,by(with_reducible repeat(first|apply Kd.R_alloc|apply Kd.R_drewN|apply Kd.R_drew));exact Kd.R_mono (Kd.R_far (p:=⟨ax,2,none⟩) (Kd.R_far (p:=⟨ax,1,none⟩) (Kd.R_far (p:=⟨ax,0,none⟩) (Kd.R_types HO_537002.out I.out zc) (fun _ hk=>hk.2) (.int .i64 am)) (fun _ hk=>hk.2) (.int .i64 an)) (fun _ hk=>hk.2) (.slice en al.length es)) (fun _ hk=>trivial),hbA HB.out⟩
end Go.Proofs.YtkagobkedifhkaaDoor.Q
namespace Go.Proofs.YtkagobkedifhkaaDoor.Q
open Go.RowKit Go.Proofs.YtkagobkedifhkaaDoorW.PrintWords Go.Proofs.YtkagobkedifhkaaDoorW.PrintLast Go.Proofs.YtkagobkedifhkaaDoorW.PrintMore
attribute [local go_sem] max2_int min2_int max_two min_two max_three min_three max_four min_four
set_option linter.unusedVariables false
set_option linter.unusedSimpArgs false
def recoupref03_Apply.f(k:Nat)(I:Int)(D:Int)(J:List Int)(l1:List Int):Option (List Int×Int):=(recoupref03_Right.f I D J).bind fun L=>(if L=true then(if(l1.length:Int)=D then((recoupref03_Mul.f k I D J D 1 l1).bind fun G=>(some (G.2.2.1,G.2.2.2)))else(some (([]:List Int),3)))else(some (([]:List Int),3)))
set_option maxHeartbeats 8000000 in
set_option maxRecDepth 100000 in
theorem recoupref03_Apply.calls(k:Nat)(J:Int)(G:Int)(L:Option Addr)(O:Nat)(I:List Int)(A1:Option Addr)(c1:Nat)(l1:List Int)(r1:List Int)(r2:Int)(w:World)(aj:Kd.C (Kd.int .u8) w L I.length I)(ai:I.length≤O)(bp:Kd.C (Kd.int .u8) w A1 l1.length l1)(ar:l1.length≤c1)(h:recoupref03_Apply.f k J G I l1=some (r1,r2)):
 Calls Tryd.prog 25 #[.agg #[.int .i64 J,.int .i64 G,.slice L I.length O],.slice A1 l1.length c1] w fun e w'=> ∃v0_:Value,e= .returned (.tuple #[v0_,.int .i64 r2])∧Kd.R (Kd.int .u8) 5 w' w.heap.size (fun _=>True) v0_ r1∧Below w.heap.size w w':=by
 have b4:=Tryd.underlying24;have Y:=aK aj;have U:=aK ai;clear aj ai;have b1:=aK bp;have b0:=aK ar;clear bp ar;have HB:=aK (Below.refl w.heap.size w);have H:((recoupref03_Right.f J G I).bind fun ak=>(if ak=true then(if(l1.length:Int)=G then((recoupref03_Mul.f k J G I G 1 l1).bind fun ag=>(some (ag.2.2.1,ag.2.2.2)))else(some (([]:List Int),3)))else(some (([]:List Int),3))))=some (r1,r2):=h;clear h;obtain⟨ak,A3,H⟩:=bindO H
 (try dsimp only at H)
 by_cases c4:ak=true
 ·subst c4;rw[if_pos rfl]at H
  by_cases c5:(l1.length:Int)=G
  ·rw[if_pos c5]at H
   have c5b0:((l1.length:Int)==G)=true:=beq_iff_eq.mpr c5;have c5b1:((l1.length:Int)!=G)=false:=bne_eq_false_iff_eq.mpr c5;clear c5;obtain⟨⟨al,am,an,bq⟩,A6,H⟩:=bindO H
   (try dsimp only at H)
   simp only[Option.some.injEq,Prod.mk.injEq]at H;obtain⟨rfl,rfl⟩:=H
   go_enter Tryd.func25,Tryd.ntmps25
   go_wp2_with (first|((with_reducible refine gD 2 rfl ?_);(try(refine gate_guard ze ?_;dsimp only));refine bE 2 #[.int .i64 J,.int .i64 G,.slice L I.length O] 24 ?_;intro ah hg w7 hbox hb;have D:=aK (hbox);have af:=hbS HB hg;have ae:=hbS HB hg;replace HB:=hbB HB hb;clear hb hbox hg;obtain⟨br,bs,bt,bu,bv,bw⟩:=cell3 D)|((with_reducible refine gC 37 rfl ?_);refine cG (some 9) Tryd.func37 #[.agg #[.int .i64 J,.int .i64 G,.slice L I.length O]] ?_;(with_reducible refine(recoupref03_Right.calls J G _ _ I true _ ?side1 ?side2 A3.out).mono ?_);(case side1=>exact kcB Y HB);(case side2=>exact U.out);rintro e w9 ⟨rfl,hb⟩;refine⟨_,rfl,?_⟩;replace D:=bkB D hb;replace HB:=hbB HB hb;(try clear hb);obtain⟨au,av,aw,a9,ba,bb⟩:=cell3 D)|((with_reducible refine gC 49 rfl ?_);refine cG (some 24) Tryd.func49 #[.agg #[.int .i64 J,.int .i64 G,.slice L I.length O],.agg #[.int .i64 G,.int .i64 1,.slice A1 l1.length c1]] ?_;(with_reducible refine(recoupref03_Mul.calls k J G _ _ I G 1 _ _ l1 al am an bq _ ?side1 ?side2 ?side3 ?side4 A6.out).mono ?_);(case side1=>exact kcB Y HB);(case side2=>exact U.out);(case side3=>exact kcB b1 HB);(case side4=>exact b0.out);rintro e b6 ⟨b5,rfl,bo,hb⟩;refine⟨_,rfl,?_⟩;have X:=aK (Kd.R_lower bo (below_size (hbA HB.out)));replace D:=bkB D hb;replace HB:=hbB HB hb;(try clear hb);(try clear bo))|((with_reducible refine gD 6 rfl ?_);(try(refine gate_guard ze ?_;dsimp only));refine bE 6 #[.int .i64 0,.int .i64 0,.slice none 0 0] 24 ?_;intro ab hg b7 hbox hb;replace X:=kdB X hb;have ac:=aK (hbox);have bz:=hbS HB hg;have bx:=hbS HB hg;replace HB:=hbB HB hb;have Z:=neL D hg;have aa:=neG D hg;replace D:=bkB D hb;clear hb hbox hg;have b2:=aa.out;have b3:=Z.out;obtain⟨ax,ay,az,bc,bd,be⟩:=cell3 ac;obtain⟨ao,ap,aq⟩:=Kd.R_slice X.out;subst aq))
   go_ret2
   exact⟨_,rfE,by(with_reducible repeat(first|apply Kd.R_alloc|apply Kd.R_drewN|apply Kd.R_drew));exact Kd.R_mono (Kd.R_far (p:=⟨ab,2,none⟩) (Kd.R_far (p:=⟨ab,1,none⟩) (Kd.R_far (p:=⟨ab,0,none⟩) (Kd.R_types X.out ac.out zc) (fun _ hk=>hk.2) (.int .i64 al)) (fun _ hk=>hk.2) (.int .i64 am)) (fun _ hk=>hk.2) (.slice ao an.length ap)) (fun _ hk=>trivial),hbA HB.out⟩
  ·rw[if_neg c5]at H
   have c5b0:((l1.length:Int)==G)=false:=beq_eq_false_iff_ne.mpr c5;have c5b1:((l1.length:Int)!=G)=true:=bne_iff_ne.mpr c5;simp only[Option.some.injEq,Prod.mk.injEq]at H;obtain⟨rfl,rfl⟩:=H
   go_enter Tryd.func25,Tryd.ntmps25
   go_wp2_with (first|((with_reducible refine gD 2 rfl ?_);(try(refine gate_guard ze ?_;dsimp only));refine bE 2 #[.int .i64 J,.int .i64 G,.slice L I.length O] 24 ?_;intro ah hg b8 hbox hb;have D:=aK (hbox);have af:=hbS HB hg;have ae:=hbS HB hg;replace HB:=hbB HB hb;clear hb hbox hg;obtain⟨a0,a1,a2,bf,bg,bh⟩:=cell3 D)|((with_reducible refine gC 37 rfl ?_);refine cG (some 9) Tryd.func37 #[.agg #[.int .i64 J,.int .i64 G,.slice L I.length O]] ?_;(with_reducible refine(recoupref03_Right.calls J G _ _ I true _ ?side1 ?side2 A3.out).mono ?_);(case side1=>exact kcB Y HB);(case side2=>exact U.out);rintro e b9 ⟨rfl,hb⟩;refine⟨_,rfl,?_⟩;replace D:=bkB D hb;replace HB:=hbB HB hb;(try clear hb);obtain⟨a3,a4,a5,bi,bj,bk⟩:=cell3 D))
   go_ret2
   exact⟨_,rfE,nilE,hbA HB.out⟩
 ·replace c4:=Bool.eq_false_iff.mpr c4;subst c4;rw[if_neg nofT]at H
  simp only[Option.some.injEq,Prod.mk.injEq]at H;obtain⟨rfl,rfl⟩:=H
  go_enter Tryd.func25,Tryd.ntmps25
  go_wp2_with (first|((with_reducible refine gD 2 rfl ?_);(try(refine gate_guard ze ?_;dsimp only));refine bE 2 #[.int .i64 J,.int .i64 G,.slice L I.length O] 24 ?_;intro ah hg ca hbox hb;have D:=aK (hbox);have af:=hbS HB hg;have ae:=hbS HB hg;replace HB:=hbB HB hb;clear hb hbox hg;obtain⟨a6,a7,a8,bl,bm,bn⟩:=cell3 D)|((with_reducible refine gC 37 rfl ?_);refine cG (some 9) Tryd.func37 #[.agg #[.int .i64 J,.int .i64 G,.slice L I.length O]] ?_;(with_reducible refine(recoupref03_Right.calls J G _ _ I false _ ?side1 ?side2 A3.out).mono ?_);(case side1=>exact kcB Y HB);(case side2=>exact U.out);rintro e cb ⟨rfl,hb⟩;refine⟨_,rfl,?_⟩;replace D:=bkB D hb;replace HB:=hbB HB hb;(try clear hb)))
  go_ret2
  exact⟨_,rfE,nilE,hbA HB.out⟩
theorem tBves{g:Nat}{tab:List Nat}{w W0 W:World}(h:TabAt g tab w)(B:Aside0 (Below w.heap.size w W0))(k:Below w.heap.size w W0→Below w.heap.size w W:=by intro h_;repeat(first|(with_reducible first|exact h_|apply below_alloc|apply pw_below_drewN|apply below_drew1|refine below_set ?_ (Aside0.out zj))|exact h_)):TabAt g tab W:=tab_below h (k B.out)
theorem fRves{α:Type}{d:Kd α}{e base t g:Nat}{ok:Nat→Prop}{w:World}{v:Value}{xs:List α}{cells:Array Value}(h:d.R e w base ok v xs)(hb:w.heap[g]? =some (.cells cells t (0,0)))(u0 u1 u2:Value)(ht: ∀q,q∈e::d.E→q≠t:=by decide):d.R e (((w.setCell ⟨g,0,none⟩ u0).setCell ⟨g,1,none⟩ u1).setCell ⟨g,2,none⟩ u2) base ok v xs:=Kd.R_mono (Kd.R_far (p:=⟨g,2,none⟩) (Kd.R_far (p:=⟨g,1,none⟩) (Kd.R_far (p:=⟨g,0,none⟩) (Kd.R_types h hb ht) (fun _ hk=>hk.2) u0) (fun _ hk=>hk.2) u1) (fun _ hk=>hk.2) u2) (fun _ h_=>h_.1)
mutual
def recouplaw18_VerdictGives.j0:Nat→Int→List Int→Bool→Int→Bool→Int→Bool→Int→Int→List Int→Int→Int→List Int→Int→Int→List Int→Option (Bool)
 |0,_,_,_,_,_,_,_,_,_,_,_,_,_,_,_,_=>none
 |k+1,x1,x2,x8,x9,ab,ac,ae,D,G,I,J,L,O,U,X,Y=>if ae=true then((recouplaw18_anchored.f k).bind fun aa=>(if aa=true then(if x9=0 then(if ac=0 then(some (x8==ab))else(some false))else(some false))else(some false)))else((recoupref03_Apply.f k D G I x2).bind fun Z=>(recouplaw18_VerdictGives.l0 k x1 x2 Z.1 ([]:List Int) 0 J L O U X Y))
def recouplaw18_VerdictGives.l0:Nat→Int→List Int→List Int→List Int→Int→Int→Int→List Int→Int→Int→List Int→Option (Bool)
 |0,_,_,_,_,_,_,_,_,_,_,_=>none
 |k+1,x1,x2,X,aa,U,D,G,I,J,L,O=>if U<(X.length:Int)then((recoupref06_Has.f x1 U).bind fun ab=>(if ab=true then(if 0≤U then(if aa.length<140737488355328 then(recouplaw18_VerdictGives.l0 k x1 x2 (X.set (U:Int).toNat ((wrap64 ((wrap64 (U*37))+11)) % 256)) (aa++ [rd X U]) (wrap64 (U+1)) D G I J L O)else(none))else(none))else(recouplaw18_VerdictGives.l0 k x1 x2 X aa (wrap64 (U+1)) D G I J L O)))else((recoupref03_Apply.f k D G I X).bind fun Y=>((recoupref03_Apply.f k J L O X).bind fun Z=>((recouplaw18_anchored.f k).bind fun ac=>(if ac=true then(if Y.2=0 then(if Z.2=0 then((recoupref01_Same.f Y.1 x2).bind fun ae=>(if ae=true then((recoupref01_Same.f Z.1 aa).bind fun af=>(some af))else(some false)))else(some false))else(some false))else(some false)))))
end
def recouplaw18_VerdictGives.f(k:Nat)(J:Int)(I:Int)(L:List Int)(a1:Int)(l2:List Int):Option (Bool):=(verdict_Decode.f k J I L a1).bind fun D=>((verdict_Rebuild.f k J I L a1).bind fun G=>((recouplaw18_generator.f k J I L a1).bind fun O=>(if O=true then(if D.2.2.2.2=0 then(if G.2.2.2.2=0 then(if(D.2.2.2.1 !=G.2.2.2.1)=true then(recouplaw18_VerdictGives.j0 k a1 l2 D.2.2.2.1 D.2.2.2.2 G.2.2.2.1 G.2.2.2.2 true J I L D.1 D.2.1 D.2.2.1 G.1 G.2.1 G.2.2.1)else(if D.2.2.2.1=true then(recouplaw18_VerdictGives.j0 k a1 l2 D.2.2.2.1 D.2.2.2.2 G.2.2.2.1 G.2.2.2.2 ((l2.length:Int)!=I) J I L D.1 D.2.1 D.2.2.1 G.1 G.2.1 G.2.2.1)else(recouplaw18_VerdictGives.j0 k a1 l2 D.2.2.2.1 D.2.2.2.2 G.2.2.2.1 G.2.2.2.2 true J I L D.1 D.2.1 D.2.2.1 G.1 G.2.1 G.2.2.1)))else(recouplaw18_VerdictGives.j0 k a1 l2 D.2.2.2.1 D.2.2.2.2 G.2.2.2.1 G.2.2.2.2 true J I L D.1 D.2.1 D.2.2.1 G.1 G.2.1 G.2.2.1))else(recouplaw18_VerdictGives.j0 k a1 l2 D.2.2.2.1 D.2.2.2.2 G.2.2.2.1 G.2.2.2.2 true J I L D.1 D.2.1 D.2.2.1 G.1 G.2.1 G.2.2.1))else((recouplaw18_anchored.f k).bind fun U=>(if U=true then(if D.2.2.2.2=0 then(some false)else(some (G.2.2.2.2 !=0)))else(some false))))))
set_option maxHeartbeats 8000000 in
set_option maxRecDepth 100000 in
theorem recouplaw18_VerdictGives.calls(k:Nat)(ae:Int)(ab:Int)(ar:Option Addr)(au:Nat)(aa:List Int)(a1:Int)(A2:Option Addr)(c2:Nat)(l2:List Int)(r:Bool)(w:World)(ec:Kd.C (Kd.int .u8) w ar aa.length aa)(d5:aa.length≤au)(lu:Kd.C (Kd.int .u8) w A2 l2.length l2)(kn:l2.length≤c2)(h:recouplaw18_VerdictGives.f k ae ab aa a1 l2=some r)(hT:TabAt 0 Lib.deBruijn64tab w):
 Calls Tryd.prog 7 #[.agg #[.int .i64 ae,.int .i64 ab,.slice ar aa.length au],.int .u64 a1,.slice A2 l2.length c2] w fun e w'=>e= .returned (.bool r)∧Below w.heap.size w w':=by
 have HT:=aK hT;clear hT;have ou:=Tryd.underlying24;have a5:=aK ec;have a4:=aK d5;clear ec d5;have fb:=aK lu;have e8:=aK kn;clear lu kn;have HB:=aK (Below.refl w.heap.size w);have H:((verdict_Decode.f k ae ab aa a1).bind fun an=>((verdict_Rebuild.f k ae ab aa a1).bind fun ap=>((recouplaw18_generator.f k ae ab aa a1).bind fun eg=>(if eg=true then(if an.2.2.2.2=0 then(if ap.2.2.2.2=0 then(if(an.2.2.2.1 !=ap.2.2.2.1)=true then(recouplaw18_VerdictGives.j0 k a1 l2 an.2.2.2.1 an.2.2.2.2 ap.2.2.2.1 ap.2.2.2.2 true ae ab aa an.1 an.2.1 an.2.2.1 ap.1 ap.2.1 ap.2.2.1)else(if an.2.2.2.1=true then(recouplaw18_VerdictGives.j0 k a1 l2 an.2.2.2.1 an.2.2.2.2 ap.2.2.2.1 ap.2.2.2.2 ((l2.length:Int)!=ab) ae ab aa an.1 an.2.1 an.2.2.1 ap.1 ap.2.1 ap.2.2.1)else(recouplaw18_VerdictGives.j0 k a1 l2 an.2.2.2.1 an.2.2.2.2 ap.2.2.2.1 ap.2.2.2.2 true ae ab aa an.1 an.2.1 an.2.2.1 ap.1 ap.2.1 ap.2.2.1)))else(recouplaw18_VerdictGives.j0 k a1 l2 an.2.2.2.1 an.2.2.2.2 ap.2.2.2.1 ap.2.2.2.2 true ae ab aa an.1 an.2.1 an.2.2.1 ap.1 ap.2.1 ap.2.2.1))else(recouplaw18_VerdictGives.j0 k a1 l2 an.2.2.2.1 an.2.2.2.2 ap.2.2.2.1 ap.2.2.2.2 true ae ab aa an.1 an.2.1 an.2.2.1 ap.1 ap.2.1 ap.2.2.1))else((recouplaw18_anchored.f k).bind fun eh=>(if eh=true then(if an.2.2.2.2=0 then(some false)else(some (ap.2.2.2.2 !=0)))else(some false)))))))=some r:=h;clear h;obtain⟨⟨ag,aj,Z,a9,a3⟩,A4,H⟩:=bindO H
 (try dsimp only at H)
 obtain⟨⟨ak,ao,ac,ba,a7⟩,A5,H⟩:=bindO H
 (try dsimp only at H)
 obtain⟨eg,A6,H⟩:=bindO H
 (try dsimp only at H)
 by_cases c7:eg=true
 ·subst c7;rw[if_pos rfl]at H
  have e9:=aK H;clear H
  go_enter Tryd.func7,Tryd.ntmps7
  go_upto_region 5 with(first|((with_reducible refine gD 3 rfl ?_);(try(refine gate_guard ze ?_;dsimp only));refine bE 3 #[.int .i64 ae,.int .i64 ab,.slice ar aa.length au] 24 ?_;intro av hg w9 hbox hb;have D:=aK (hbox);have db:=aK ((by rw[hg];exact(below_size zm):w.heap.size≤av));have c8:=aK ((by rw[hg];exact(below_size zm):w.heap.size≤av));replace HB:=aK (below_step zm hb);clear hb hbox hg;obtain⟨bw,bx,bz,cg,ch,ci⟩:=cell3 D)|((with_reducible refine gC 20 rfl ?_);refine cG (some 24) Tryd.func20 #[.agg #[.int .i64 ae,.int .i64 ab,.slice ar aa.length au],.int .u64 a1] ?_;(with_reducible refine(verdict_Decode.calls k ae ab _ _ aa a1 ag aj Z a9 a3 _ ?side1 ?side2 A4.out (tBves HT.out HB)).mono ?_);(case side1=>exact kcB a5 HB);(case side2=>exact a4.out);rintro e pp ⟨ei,rfl,U,hb⟩;refine⟨_,rfl,?_⟩;have J:=aK (Kd.R_lower U (below_size (hbA HB.out)));replace D:=bkB D hb;replace HB:=hbB HB hb;(try clear hb);(try clear U))|((with_reducible refine gD 7 rfl ?_);(try(refine gate_guard ze ?_;dsimp only));refine bE 7 #[.int .i64 0,.int .i64 0,.slice none 0 0] 24 ?_;intro a2 hg pq hbox hb;replace J:=kdB J hb;have G:=aK (hbox);have dc:=hbS HB hg;have c9:=hbS HB hg;replace HB:=hbB HB hb;have L:=neL D hg;have al:=neG D hg;replace D:=bkB D hb;clear hb hbox hg;have m6:=al.out;have nq:=L.out;obtain⟨b0,b1,b2,cj,ck,cl⟩:=cell3 G;obtain⟨aw,ax,ka⟩:=Kd.R_slice J.out;subst ka;obtain⟨b3,b4,b5,cm,cn,co⟩:=cell3 D)|((with_reducible refine gC 22 rfl ?_);refine cG (some 31) Tryd.func22 #[.agg #[.int .i64 ae,.int .i64 ab,.slice ar aa.length au],.int .u64 a1] ?_;(with_reducible refine(verdict_Rebuild.calls k ae ab _ _ aa a1 ak ao ac ba a7 _ ?side1 ?side2 A5.out (tBves HT.out HB)).mono ?_);(case side1=>exact Kd.C_below a5.out (hbA HB.out));(case side2=>exact a4.out);rintro e pr ⟨ej,rfl,U,hb⟩;refine⟨_,rfl,?_⟩;have ah:=aK (Kd.R_lower (Kd.R_new' U (Kd.R_lt (by(with_reducible repeat(first|apply Kd.R_alloc|apply Kd.R_drewN|apply Kd.R_drew));exact(fRves J.out G.out (.int .i64 ag) (.int .i64 aj) (.slice aw Z.length ax))))) (below_size (hbA HB.out)));replace J:=aK (Kd.R_elder' (by(with_reducible repeat(first|apply Kd.R_alloc|apply Kd.R_drewN|apply Kd.R_drew));exact(fRves J.out G.out (.int .i64 ag) (.int .i64 aj) (.slice aw Z.length ax))) (Kd.R_base U) hb);replace D:=aK (blk_below (g:=av) (o:= .cells #[.int .i64 ae,.int .i64 ab,.slice ar aa.length au] 24 (0,0)) zz hb);replace G:=aK (blk_below (g:=a2) (o:= .cells #[.int .i64 ag,.int .i64 aj,.slice aw Z.length ax] 24 (0,0)) zx hb);replace HB:=hbB HB hb;(try clear hb);(try clear U))|((with_reducible refine gD 10 rfl ?_);(try(refine gate_guard ze ?_;dsimp only));refine bE 10 #[.int .i64 0,.int .i64 0,.slice none 0 0] 24 ?_;intro a6 hg pt hbox hb;replace J:=kdB J hb;replace ah:=kdB ah hb;have I:=aK (hbox);have dd:=hbS HB hg;have da:=hbS HB hg;replace HB:=hbB HB hb;have O:=neL D hg;have am:=neG D hg;replace D:=bkB D hb;have X:=neL G hg;have aq:=neG G hg;replace G:=bkB G hb;clear hb hbox hg;have m7:=am.out;have nr:=O.out;have m8:=aq.out;have nt:=X.out;obtain⟨b6,b7,b8,cp,cq,cr⟩:=cell3 I;obtain⟨ay,az,kb⟩:=Kd.R_slice ah.out;subst kb;obtain⟨b9,ca,cb,ct,cu,cv⟩:=cell3 D)|((with_reducible refine gC 13 rfl ?_);refine cG (some 37) Tryd.func13 #[.agg #[.int .i64 ae,.int .i64 ab,.slice ar aa.length au],.int .u64 a1] ?_;(with_reducible refine(recouplaw18_generator.calls k ae ab _ _ aa a1 true _ ?side1 ?side2 A6.out).mono ?_);(case side1=>exact Kd.C_below a5.out (hbA HB.out));(case side2=>exact a4.out);rintro e pv ⟨rfl,hb⟩;refine⟨_,rfl,?_⟩;replace J:=aK (Kd.R_below (by(with_reducible repeat(first|apply Kd.R_alloc|apply Kd.R_drewN|apply Kd.R_drew));exact(fRves J.out I.out (.int .i64 ak) (.int .i64 ao) (.slice ay ac.length az))) hb);replace ah:=aK (Kd.R_below (by(with_reducible repeat(first|apply Kd.R_alloc|apply Kd.R_drewN|apply Kd.R_drew));exact(fRves ah.out I.out (.int .i64 ak) (.int .i64 ao) (.slice ay ac.length az))) hb);replace D:=aK (blk_below (g:=av) (o:= .cells #[.int .i64 ae,.int .i64 ab,.slice ar aa.length au] 24 (0,0)) zo hb);replace G:=aK (blk_below (g:=a2) (o:= .cells #[.int .i64 ag,.int .i64 aj,.slice aw Z.length ax] 24 (0,0)) zy hb);replace I:=aK (blk_below (g:=a6) (o:= .cells #[.int .i64 ak,.int .i64 ao,.slice ay ac.length az] 24 (0,0)) zw hb);replace HB:=hbB HB hb;(try clear hb)))
  (try simp only[Act.put,zL])
  go_cut [69] (fun oa wc=> ∃(kq:Nat) (bt:Bool),oa= .bool bt∧Aside0 (recouplaw18_VerdictGives.j0 kq a1 l2 a9 a3 ba a7 bt ae ab aa ag aj Z ak ao ac=some r)∧Aside0 (kq≤k)∧Aside0 (Kd.R (Kd.int .u8) 5 wc w.heap.size (fun k_=>some k_≠((.slice ay ac.length az):Value).ownBlock) (.slice aw Z.length ax) Z)∧Aside0 (Kd.R (Kd.int .u8) 5 wc w.heap.size (fun k_=>some k_≠((.slice aw Z.length ax):Value).ownBlock) (.slice ay ac.length az) ac)∧Aside0 (wc.heap[av]? =some (.cells #[.int .i64 ae,.int .i64 ab,(.slice ar aa.length au)] 24 (0,0)))∧Aside0 (wc.heap[a2]? =some (.cells #[.int .i64 ag,.int .i64 aj,(.slice aw Z.length ax)] 24 (0,0)))∧Aside0 (wc.heap[a6]? =some (.cells #[.int .i64 ak,.int .i64 ao,(.slice ay ac.length az)] 24 (0,0)))∧Aside0 (Below w.heap.size w wc))
  case first=>
   have H:=e9.out;clear e9;by_cases bo:a3=0
   ·rw[if_pos bo]at H
    have c25b0:(a3==0)=true:=beq_iff_eq.mpr bo;have c25b1:(a3 !=0)=false:=bne_eq_false_iff_eq.mpr bo;clear bo
    (first|rw[c25b0] |(simp only[i64_w,i32_w];rw[c25b0])|skip)
    by_cases bp:a7=0
    ·rw[if_pos bp]at H
     have c26b0:(a7==0)=true:=beq_iff_eq.mpr bp;have c26b1:(a7 !=0)=false:=bne_eq_false_iff_eq.mpr bp;clear bp;by_cases bf:(a9 !=ba)=true
     ·rw[if_pos bf]at H
      have c27b0:(a9 !=ba)=true:=bf
      (try(have c27b1:decide (a9=ba)=false:=by simpa using bf))
      (try(have c27b2:(a9==ba)=false:=by simpa using bf))
      (try(have c27b3: ¬(a9=ba):=by simpa using bf))
      clear bf;have H':=aK H;clear H;go_wp2
      go_meet
      case rel=>exact⟨_,(true),rsE,H',⟨leE⟩,⟨by(with_reducible repeat(first|apply Kd.R_alloc|apply Kd.R_drewN|apply Kd.R_drew));exact Kd.R_mono J.out (fun _ hk=>hk.2)⟩,⟨by(with_reducible repeat(first|apply Kd.R_alloc|apply Kd.R_drewN|apply Kd.R_drew));exact Kd.R_mono ah.out (fun _ hk=>hk.2)⟩,⟨bkA D.out⟩,⟨bkA G.out⟩,⟨bkA I.out⟩,⟨hbA HB.out⟩⟩
     ·rw[if_neg bf]at H
      have c27b0:(a9 !=ba)=false:=by simpa using bf
      (try(have c27b1:decide (a9=ba)=true:=by simpa using bf))
      (try(have c27b2:(a9==ba)=true:=by simpa using bf))
      clear bf;by_cases du:a9=true
      ·subst du;rw[if_pos rfl]at H
       have H':=aK H;clear H;have m9:=L.out;have nu:=al.out;have na:=O.out;have nv:=am.out;obtain⟨cd,ce,cf,cw,cx,cy⟩:=cell3 D;go_wp2
       go_meet
       case rel=>exact⟨_,(((l2.length:Int)!=ab)),rsE,H',⟨leE⟩,⟨by(with_reducible repeat(first|apply Kd.R_alloc|apply Kd.R_drewN|apply Kd.R_drew));exact Kd.R_mono J.out (fun _ hk=>hk.2)⟩,⟨by(with_reducible repeat(first|apply Kd.R_alloc|apply Kd.R_drewN|apply Kd.R_drew));exact Kd.R_mono ah.out (fun _ hk=>hk.2)⟩,⟨bkA D.out⟩,⟨bkA G.out⟩,⟨bkA I.out⟩,⟨hbA HB.out⟩⟩
      ·replace du:=Bool.eq_false_iff.mpr du;subst du;rw[if_neg nofT]at H
       have H':=aK H;clear H;go_wp2
       go_meet
       case rel=>exact⟨_,(true),rsE,H',⟨leE⟩,⟨by(with_reducible repeat(first|apply Kd.R_alloc|apply Kd.R_drewN|apply Kd.R_drew));exact Kd.R_mono J.out (fun _ hk=>hk.2)⟩,⟨by(with_reducible repeat(first|apply Kd.R_alloc|apply Kd.R_drewN|apply Kd.R_drew));exact Kd.R_mono ah.out (fun _ hk=>hk.2)⟩,⟨bkA D.out⟩,⟨bkA G.out⟩,⟨bkA I.out⟩,⟨hbA HB.out⟩⟩
    ·rw[if_neg bp]at H
     have c26b0:(a7==0)=false:=beq_eq_false_iff_ne.mpr bp;have c26b1:(a7 !=0)=true:=bne_iff_ne.mpr bp;have H':=aK H;clear H;go_wp2
     go_meet
     case rel=>exact⟨_,(true),rsE,H',⟨leE⟩,⟨by(with_reducible repeat(first|apply Kd.R_alloc|apply Kd.R_drewN|apply Kd.R_drew));exact Kd.R_mono J.out (fun _ hk=>hk.2)⟩,⟨by(with_reducible repeat(first|apply Kd.R_alloc|apply Kd.R_drewN|apply Kd.R_drew));exact Kd.R_mono ah.out (fun _ hk=>hk.2)⟩,⟨bkA D.out⟩,⟨bkA G.out⟩,⟨bkA I.out⟩,⟨hbA HB.out⟩⟩
   ·rw[if_neg bo]at H
    have c25b0:(a3==0)=false:=beq_eq_false_iff_ne.mpr bo;have c25b1:(a3 !=0)=true:=bne_iff_ne.mpr bo
    (first|rw[c25b0] |(simp only[i64_w,i32_w];rw[c25b0])|skip)
    have H':=aK H;clear H;go_wp2
    go_meet
    case rel=>exact⟨_,(true),rsE,H',⟨leE⟩,⟨by(with_reducible repeat(first|apply Kd.R_alloc|apply Kd.R_drewN|apply Kd.R_drew));exact Kd.R_mono J.out (fun _ hk=>hk.2)⟩,⟨by(with_reducible repeat(first|apply Kd.R_alloc|apply Kd.R_drewN|apply Kd.R_drew));exact Kd.R_mono ah.out (fun _ hk=>hk.2)⟩,⟨bkA D.out⟩,⟨bkA G.out⟩,⟨bkA I.out⟩,⟨hbA HB.out⟩⟩
  case rest=>
   clear e9
   (try clear c1);(try clear c2);(try clear p2);(try clear c3);(try clear c7);(try clear m0);(try clear m1);(try clear m2);(try clear m3);(try clear bo);(try clear c25b0);(try clear c25b1);(try clear bp);(try clear c26b0);(try clear c26b1);(try clear bf);(try clear c27b0);(try clear c27b1);(try clear c27b2);(try clear du);(try clear m4);(try clear m5);(try clear bw bx bz cg ch ci);(try clear b0 b1 b2 cj ck cl);(try clear b3 b4 b5 cm cn co);(try clear b6 b7 b8 cp cq cr);(try clear b9 ca cb ct cu cv);(try clear cd ce cf cw cx cy)
   obtain⟨kq,bt,rfl,HA,en,HO_622002,HO_630002,D,G,I,HB⟩:=hcut
   cases kq with
   |zero=>exact absurd HA.out (by simp[recouplaw18_VerdictGives.j0])
   |succ dl=>
    have H:=HA.out;clear HA;simp only[recouplaw18_VerdictGives.j0]at H;by_cases d2:bt=true
    ·subst d2;rw[if_pos rfl]at H
     obtain⟨lv,em,H⟩:=bindO H
     (try dsimp only at H)
     by_cases d3:lv=true
     ·subst d3;rw[if_pos rfl]at H
      by_cases bu:a3=0
      ·rw[if_pos bu]at H
       have c35b0:(a3==0)=true:=beq_iff_eq.mpr bu;have c35b1:(a3 !=0)=false:=bne_eq_false_iff_eq.mpr bu;clear bu;by_cases bv:a7=0
       ·rw[if_pos bv]at H
        have c36b0:(a7==0)=true:=beq_iff_eq.mpr bv;have c36b1:(a7 !=0)=false:=bne_eq_false_iff_eq.mpr bv;clear bv;obtain rfl:=Option.some.inj H
        go_wp2_with (first|((with_reducible refine gC 14 rfl ?_);refine cG (some 70) Tryd.func14 #[] ?_;(with_reducible refine(recouplaw18_anchored.calls dl true _ em.out (tBves HT.out HB)).mono ?_);rintro e pw ⟨rfl,hb⟩;refine⟨_,rfl,?_⟩;replace HO_622002:=kdB HO_622002 hb;replace HO_630002:=kdB HO_630002 hb;replace D:=bkB D hb;replace G:=bkB G hb;replace I:=bkB I hb;replace HB:=hbB HB hb;(try clear hb)))
        go_ret
        exact⟨rfE,hbA HB.out⟩
       ·rw[if_neg bv]at H
        have c36b0:(a7==0)=false:=beq_eq_false_iff_ne.mpr bv;have c36b1:(a7 !=0)=true:=bne_iff_ne.mpr bv;obtain rfl:=Option.some.inj H
        go_wp2_with (first|((with_reducible refine gC 14 rfl ?_);refine cG (some 70) Tryd.func14 #[] ?_;(with_reducible refine(recouplaw18_anchored.calls dl true _ em.out (tBves HT.out HB)).mono ?_);rintro e px ⟨rfl,hb⟩;refine⟨_,rfl,?_⟩;replace HO_622002:=kdB HO_622002 hb;replace HO_630002:=kdB HO_630002 hb;replace D:=bkB D hb;replace G:=bkB G hb;replace I:=bkB I hb;replace HB:=hbB HB hb;(try clear hb)))
        go_ret
        exact⟨rfE,hbA HB.out⟩
      ·rw[if_neg bu]at H
       have c35b0:(a3==0)=false:=beq_eq_false_iff_ne.mpr bu;have c35b1:(a3 !=0)=true:=bne_iff_ne.mpr bu;obtain rfl:=Option.some.inj H
       go_wp2_with (first|((with_reducible refine gC 14 rfl ?_);refine cG (some 70) Tryd.func14 #[] ?_;(with_reducible refine(recouplaw18_anchored.calls dl true _ em.out (tBves HT.out HB)).mono ?_);rintro e py ⟨rfl,hb⟩;refine⟨_,rfl,?_⟩;replace HO_622002:=kdB HO_622002 hb;replace HO_630002:=kdB HO_630002 hb;replace D:=bkB D hb;replace G:=bkB G hb;replace I:=bkB I hb;replace HB:=hbB HB hb;(try clear hb)))
       go_ret
       exact⟨rfE,hbA HB.out⟩
     ·replace d3:=Bool.eq_false_iff.mpr d3;subst d3;rw[if_neg nofT]at H
      obtain rfl:=Option.some.inj H
      go_wp2_with (first|((with_reducible refine gC 14 rfl ?_);refine cG (some 70) Tryd.func14 #[] ?_;(with_reducible refine(recouplaw18_anchored.calls dl false _ em.out (tBves HT.out HB)).mono ?_);rintro e pz ⟨rfl,hb⟩;refine⟨_,rfl,?_⟩;replace HO_622002:=kdB HO_622002 hb;replace HO_630002:=kdB HO_630002 hb;replace D:=bkB D hb;replace G:=bkB G hb;replace I:=bkB I hb;replace HB:=hbB HB hb;(try clear hb)))
      go_ret
      exact⟨rfE,hbA HB.out⟩
    ·replace d2:=Bool.eq_false_iff.mpr d2;subst d2;rw[if_neg nofT]at H
     obtain⟨⟨e7,lw⟩,my,H⟩:=bindO H
     (try dsimp only at H)
     have H':=aK H;clear H;have nb:=L.out;have nw:=al.out;have nc:=O.out;have nx:=am.out;obtain⟨d6,d7,d8,d9,ea,eb⟩:=cell3 D
     go_wp2_with (first|((with_reducible refine gC 25 rfl ?_);refine cG (some 87) Tryd.func25 #[.agg #[.int .i64 ae,.int .i64 ab,.slice ar aa.length au],.slice A2 l2.length c2] ?_;(with_reducible refine(recoupref03_Apply.calls dl ae ab _ _ aa _ _ l2 e7 lw _ ?side1 ?side2 ?side3 ?side4 my.out).mono ?_);(case side1=>exact kcB a5 HB);(case side2=>exact a4.out);(case side3=>exact kcB fb HB);(case side4=>exact e8.out);rintro e p0 ⟨dp,rfl,U,hb⟩;refine⟨_,rfl,?_⟩;have fa:=aK (Kd.R_lower (Kd.R_new' (Kd.R_new' U (Kd.R_lt (kdA HO_622002.out))) (Kd.R_lt (kdA HO_630002.out))) (below_size (hbA HB.out)));replace HO_622002:=aK (Kd.R_elder' (kdA HO_622002.out) (Kd.R_base U) hb);replace HO_630002:=aK (Kd.R_elder' (kdA HO_630002.out) (Kd.R_base U) hb);replace D:=bkB D hb;replace G:=bkB G hb;replace I:=bkB I hb;replace HB:=hbB HB hb;(try clear hb);(try clear U)))
     go_loopg [15,16] dl (fun kq ev n9 w'=> ∃(Y:List Int) (bb:List Int) (ai:Int),n9= .int .i64 ai∧Aside0 (recouplaw18_VerdictGives.l0 kq a1 l2 Y bb ai ag aj Z ak ao ac=some r)∧Aside0 (kq≤dl)∧Aside0 (Kd.R (Kd.int .u8) 5 w' w.heap.size (fun k_=>some k_≠(ev:Value).ownBlock∧some k_≠((.slice aw Z.length ax):Value).ownBlock∧some k_≠((.slice ay ac.length az):Value).ownBlock) dp Y)∧Aside0 (Kd.R (Kd.int .u8) 5 w' w.heap.size (fun k_=>some k_≠(dp:Value).ownBlock∧some k_≠((.slice aw Z.length ax):Value).ownBlock∧some k_≠((.slice ay ac.length az):Value).ownBlock) ev bb)∧Aside0 (Kd.R (Kd.int .u8) 5 w' w.heap.size (fun k_=>some k_≠(dp:Value).ownBlock∧some k_≠(ev:Value).ownBlock∧some k_≠((.slice ay ac.length az):Value).ownBlock) (.slice aw Z.length ax) Z)∧Aside0 (Kd.R (Kd.int .u8) 5 w' w.heap.size (fun k_=>some k_≠(dp:Value).ownBlock∧some k_≠(ev:Value).ownBlock∧some k_≠((.slice aw Z.length ax):Value).ownBlock) (.slice ay ac.length az) ac)∧Aside0 (w'.heap[av]? =some (.cells #[.int .i64 ae,.int .i64 ab,(.slice ar aa.length au)] 24 (0,0)))∧Aside0 (w'.heap[a2]? =some (.cells #[.int .i64 ag,.int .i64 aj,(.slice aw Z.length ax)] 24 (0,0)))∧Aside0 (w'.heap[a6]? =some (.cells #[.int .i64 ak,.int .i64 ao,(.slice ay ac.length az)] 24 (0,0)))∧Aside0 (Below w.heap.size w w'))
     case atStart=>exact⟨(e7),(([]:List Int)),(0),rsE,H',⟨Nat.le_refl _⟩,⟨by(with_reducible repeat(first|apply Kd.R_alloc|apply Kd.R_drewN|apply Kd.R_drew));exact Kd.R_mono fa.out (fun _ hk=>⟨zp,⟨hk.1.2,hk.2⟩⟩)⟩,⟨nilE⟩,⟨by(with_reducible repeat(first|apply Kd.R_alloc|apply Kd.R_drewN|apply Kd.R_drew));exact Kd.R_mono HO_622002.out (fun _ hk=>⟨hk.2,⟨zp,hk.1⟩⟩)⟩,⟨by(with_reducible repeat(first|apply Kd.R_alloc|apply Kd.R_drewN|apply Kd.R_drew));exact Kd.R_mono HO_630002.out (fun _ hk=>⟨hk.2,⟨zp,hk.1⟩⟩)⟩,⟨bkA D.out⟩,⟨bkA G.out⟩,⟨bkA I.out⟩,⟨hbA HB.out⟩⟩
     case round=>
      clear H'
      (try clear c1);(try clear c2);(try clear p2 p2);(try clear c3);(try clear c4);(try clear c7);(try clear m0);(try clear pm);(try clear m1);(try clear m2);(try clear m3);(try clear bo);(try clear c25b0);(try clear c25b1);(try clear bp);(try clear c26b0);(try clear c26b1);(try clear bf);(try clear c27b0);(try clear c27b1);(try clear c27b2);(try clear du);(try clear m4);(try clear m5);(try clear d2);(try clear d3);(try clear bu);(try clear c35b0);(try clear c35b1);(try clear bv);(try clear c36b0);(try clear c36b1);(try clear pn);(try clear po);(try clear bw bx bz cg ch ci);(try clear b0 b1 b2 cj ck cl);(try clear b3 b4 b5 cm cn co);(try clear b6 b7 b8 cp cq cr);(try clear b9 ca cb ct cu cv);(try clear cd ce cf cw cx cy);(try clear d6 d7 d8 d9 ea eb)
      obtain⟨Y,bb,ai,rfl,HA,eo,HO_13,HO_15,HO_622002,HO_630002,D,G,I,HB⟩:=hrel
      cases gk with
      |zero=>exact absurd HA.out (by simp[recouplaw18_VerdictGives.l0])
      |succ k2=>
       have H:=HA.out;clear HA;simp only[recouplaw18_VerdictGives.l0]at H;by_cases dv:ai<(Y.length:Int)
       ·rw[if_pos dv]at H
        have c46b0:decide (ai<(Y.length:Int))=true:=decide_eq_true dv;clear dv;obtain⟨lx,j6,H⟩:=bindO H
        (try dsimp only at H)
        by_cases ep:lx=true
        ·subst ep;rw[if_pos rfl]at H
         by_cases er:0≤ai
         ·rw[if_pos er]at H
          have c49b0:decide (0≤ai)=true:=decide_eq_true er;clear er;by_cases es:bb.length<140737488355328
          ·rw[if_pos es]at H
           have fc:=aK es;clear es;obtain⟨ek,bh⟩: ∃y_:List Int,y_=(bb++ [rd Y ai]):=⟨_,rfl⟩
           replace H:(recouplaw18_VerdictGives.l0 k2 a1 l2 (Y.set (ai:Int).toNat ((wrap64 ((wrap64 (ai*37))+11)) % 256)) ek (wrap64 (ai+1)) ag aj Z ak ao ac)=some r:=by first|(rw[bh];with_reducible exact H)|(have H2_:=(Option.bind_some _ _).symm.trans H;rw[bh];with_reducible exact H2_)|(have H2_:=(Option.bind_some _ _).symm.trans H;with_reducible exact H2_)|with_reducible exact H|(rw[bh];exact H)|exact H
           have fd:=aK bh;clear bh;obtain⟨el,bi⟩: ∃y_:List Int,y_=(Y.set (ai:Int).toNat ((wrap64 ((wrap64 (ai*37))+11)) % 256)):=⟨_,rfl⟩
           replace H:(recouplaw18_VerdictGives.l0 k2 a1 l2 el ek (wrap64 (ai+1)) ag aj Z ak ao ac)=some r:=by first|(rw[bi];with_reducible exact H)|(have H2_:=(Option.bind_some _ _).symm.trans H;rw[bi];with_reducible exact H2_)|(have H2_:=(Option.bind_some _ _).symm.trans H;with_reducible exact H2_)|with_reducible exact H|(rw[bi];exact H)|exact H
           have fe:=aK bi;clear bi;have H':=aK H;clear H;obtain⟨dm,a8,kc⟩:=Kd.R_slice HO_13.out;subst kc
           go_wp2_with (first|((with_reducible refine gC 26 rfl ?_);refine cG (some 98) Tryd.func26 #[.int .u64 a1,.int .i64 ai] ?_;(with_reducible refine(recoupref06_Has.calls a1 ai true _ j6.out).mono ?_);rintro e w' ⟨rfl,⟨nd,rfl⟩⟩;refine⟨_,rfl,?_⟩;(try(rw[drewN_self wr];generalize hq_:World.drewN wr _=wr;have n0_:Aside0 (Kd.R (Kd.int .u8) 5 wr w.heap.size (fun k_=>some k_≠(u15:Value).ownBlock∧some k_≠(.slice aw Z.length ax:Value).ownBlock∧some k_≠(.slice ay ac.length az:Value).ownBlock) (.slice dm Y.length a8) Y):=⟨by rw[←hq_];exact(kdA HO_13.out)⟩;have n1_:Aside0 (Kd.R (Kd.int .u8) 5 wr w.heap.size (fun k_=>some k_≠(.slice dm Y.length a8:Value).ownBlock∧some k_≠(.slice aw Z.length ax:Value).ownBlock∧some k_≠(.slice ay ac.length az:Value).ownBlock) u15 bb):=⟨by rw[←hq_];exact(kdA HO_15.out)⟩;have n2_:Aside0 (Kd.R (Kd.int .u8) 5 wr w.heap.size (fun k_=>some k_≠(.slice dm Y.length a8:Value).ownBlock∧some k_≠(u15:Value).ownBlock∧some k_≠(.slice ay ac.length az:Value).ownBlock) (.slice aw Z.length ax) Z):=⟨by rw[←hq_];exact(kdA HO_622002.out)⟩;have n3_:Aside0 (Kd.R (Kd.int .u8) 5 wr w.heap.size (fun k_=>some k_≠(.slice dm Y.length a8:Value).ownBlock∧some k_≠(u15:Value).ownBlock∧some k_≠(.slice aw Z.length ax:Value).ownBlock) (.slice ay ac.length az) ac):=⟨by rw[←hq_];exact(kdA HO_630002.out)⟩;have n4_:Aside0 (wr.heap[av]? =some (.cells #[.int .i64 ae,.int .i64 ab,.slice ar aa.length au] 24 (0,0))):=⟨by rw[←hq_];exact(bkA D.out)⟩;have n5_:Aside0 (wr.heap[a2]? =some (.cells #[.int .i64 ag,.int .i64 aj,.slice aw Z.length ax] 24 (0,0))):=⟨by rw[←hq_];exact(bkA G.out)⟩;have n6_:Aside0 (wr.heap[a6]? =some (.cells #[.int .i64 ak,.int .i64 ao,.slice ay ac.length az] 24 (0,0))):=⟨by rw[←hq_];exact(bkA I.out)⟩;have n7_:Aside0 (Below w.heap.size w wr):=⟨by rw[←hq_];exact(hbA HB.out)⟩;clear HO_13 HO_15 HO_622002 HO_630002 D G I HB hq_;have HO_13:=n0_;have HO_15:=n1_;have HO_622002:=n2_;have HO_630002:=n3_;have D:=n4_;have G:=n5_;have I:=n6_;have HB:=n7_;clear n0_ n1_ n2_ n3_ n4_ n5_ n6_ n7_));have ee:0≤(ai:Int):=of_decide_eq_true asE;have ef:ai<(Y.length:Int):=of_decide_eq_true asE;obtain⟨df,j9,ed⟩:=Kd.at_int (Kd.R_reads' HO_13.out).2.2 ai ee ef;cases j9;replace ee:=eq_true ee;replace ef:=eq_true ef)|((with_reducible refine gate_builtin (b:= .append) (xs:= #[.tmp 99,.tmp 104]) rfl ?_);(try(refine gate_guard ze ?_;dsimp only));at_builtin;refine Kd.R_append (Kd.int .u8) (w0:=w) w.heap.size rfl (.tmp 99) (.tmp 104) 22 5 (.int .u8 0) 1 rfl Tryd.underlying22 info5 rfl zc za u15 bb (rd Y ai) [.int .u8 (rd Y ai)] (fun k_=>some k_≠(.slice (some df) Y.length a8:Value).ownBlock∧some k_≠(.slice aw Z.length ax:Value).ownBlock∧some k_≠(.slice ay ac.length az:Value).ownBlock) (fun _=>False) rfl rfl ?aP (fun _ hk=>hk.elim) ?aF ?aO ?aB ?aS ?aL ?_;(case aP=>exact rfl);(case aB=>exact(hbA HB.out));(case aF=>exact(fun k_ hk=>⟨Kd.fresh' (Kd.R_lt (kdA HO_13.out)) k_ hk,Kd.fresh' (Kd.R_lt (kdA HO_622002.out)) k_ hk,Kd.fresh' (Kd.R_lt (kdA HO_630002.out)) k_ hk⟩));(case aO=>exact(kdA HO_15.out));(case aS=>exact(below_size (hbA HB.out)));(case aL=>have:=fc.out;omega);intro dq l3 ho hb hg hat;rw[←fd.out]at ho;have n0_:=aK (Kd.R_after (ok:=(fun k_=>some k_≠(.slice aw Z.length ax:Value).ownBlock∧some k_≠(.slice ay ac.length az:Value).ownBlock)) (by(with_reducible repeat(first|apply Kd.R_alloc|apply Kd.R_drewN|apply Kd.R_drew));exact Kd.R_mono HO_13.out (fun _ hk=>⟨⟨hk.2.1,hk.2.2⟩,hk.1⟩)) hg hat);have n1_:=aK (Kd.R_after (ok:=(fun k_=>some k_≠(.slice (some df) Y.length a8:Value).ownBlock∧some k_≠(.slice ay ac.length az:Value).ownBlock)) (by(with_reducible repeat(first|apply Kd.R_alloc|apply Kd.R_drewN|apply Kd.R_drew));exact Kd.R_mono HO_622002.out (fun _ hk=>⟨⟨hk.1,hk.2.2⟩,hk.2.1⟩)) hg hat);have n2_:=aK (Kd.R_after (ok:=(fun k_=>some k_≠(.slice (some df) Y.length a8:Value).ownBlock∧some k_≠(.slice aw Z.length ax:Value).ownBlock)) (by(with_reducible repeat(first|apply Kd.R_alloc|apply Kd.R_drewN|apply Kd.R_drew));exact Kd.R_mono HO_630002.out (fun _ hk=>⟨⟨hk.1,hk.2.2⟩,hk.2.1⟩)) hg hat);have n3_:=aK (blk_grown (g:=av) (o:= .cells #[.int .i64 ae,.int .i64 ab,.slice ar aa.length au] 24 (0,0)) (bkA D.out) hg (Kd.R_ne HO_15.out D.out zc));have n4_:=aK (blk_grown (g:=a2) (o:= .cells #[.int .i64 ag,.int .i64 aj,.slice aw Z.length ax] 24 (0,0)) (bkA G.out) hg (Kd.R_ne HO_15.out G.out zc));have n5_:=aK (blk_grown (g:=a6) (o:= .cells #[.int .i64 ak,.int .i64 ao,.slice ay ac.length az] 24 (0,0)) (bkA I.out) hg (Kd.R_ne HO_15.out I.out zc));have n6_:=aK (hb);have n7_:=aK (ho);clear HO_13;clear HO_622002;clear HO_630002;clear D;clear G;clear I;clear HB;clear HO_15;have HO_13:=n0_;have HO_622002:=n1_;have HO_630002:=n2_;have D:=n3_;have G:=n4_;have I:=n5_;have HB:=n6_;have de:=n7_;clear n0_ n1_ n2_ n3_ n4_ n5_ n6_ n7_;clear ho hb hg hat;have p51:0≤(ai:Int):=of_decide_eq_true asE;have fm:(ai:Int)<((Y.length:Int):Int):=of_decide_eq_true asE;obtain⟨be,om,e5,e6,km,ol,e0⟩:=Kd.R_form HO_13.out za;(first|cases e5|(injection e5 with ea_ en_ ec_;(first|subst ea_|(injection ea_ with ea_;subst ea_));subst ec_;clear en_));have j8:=aK e6;have oh:=aK e0;clear e6 km e0;(first|simp only[add_plain]at ed|skip);obtain⟨mx,l4⟩:=Kd.R_celln 0 HO_13.out (ai:Int) p51 fm;replace p51:=eq_true p51;replace fm:=eq_true fm;have n_:=aK (Kd.R_mono (ok':=(fun k_=>some k_≠(.slice aw Z.length ax:Value).ownBlock∧some k_≠(.slice ay ac.length az:Value).ownBlock∧some k_≠(dq:Value).ownBlock)) HO_13.out (fun k_ hk=>⟨hk.1.1,⟨hk.1.2,hk.2⟩⟩));clear HO_13;have HO_13:=n_;clear n_;obtain⟨hy54_,hz54_⟩:=Kd.R_celln 0 HO_13.out (ai:Int) (of_decide_eq_true asE) (of_decide_eq_true asE);have d1:=Kd.R_putg HO_13.out (ai:Int) ((wrap64 ((wrap64 (ai*37))+11)) % 256))|((with_reducible refine gate_store (t:=5) (p:=112) rfl ?_);refine store_event (t:=5) (p:=112) (v:=?vo_w55) (w1:=(l3.setCell ⟨be,(ai:Int).toNat,none⟩ (.int .u8 ((wrap64 ((wrap64 (ai*37))+11)) % 256)))) ?hg ?ho ?hn ?hr ?_;(case ho=>rfl);(case hg=>rfl);(case hn=>rfl);(case hr=>first|(go_simp;done)|(go_simp;rfl));intro fo hw;have hg:l3.grownBy fo (some be):=(by rw[hw];exact d1.2);have hp_:Kd.R (Kd.int .u8) 5 fo w.heap.size (fun k_=>some k_≠(.slice aw Z.length ax:Value).ownBlock∧some k_≠(.slice ay ac.length az:Value).ownBlock∧some k_≠(dq:Value).ownBlock) (.slice (some ⟨be,0,none⟩) Y.length a8) el:=(by rw[hw,fe.out];exact d1.1);clear d1;replace HO_622002:=aK (Kd.R_after (v:=(.slice (some ⟨be,0,none⟩) Y.length a8)) (v1:=(.slice (some ⟨be,0,none⟩) Y.length a8)) (ok:=(fun k_=>some k_≠(.slice ay ac.length az:Value).ownBlock∧some k_≠(dq:Value).ownBlock)) (by(with_reducible repeat(first|apply Kd.R_alloc|apply Kd.R_drewN|apply Kd.R_drew));exact Kd.R_mono HO_622002.out (fun _ hk=>⟨⟨hk.1.2,hk.2⟩,hk.1.1⟩)) hg (.inl rfl));replace HO_630002:=aK (Kd.R_after (v:=(.slice (some ⟨be,0,none⟩) Y.length a8)) (v1:=(.slice (some ⟨be,0,none⟩) Y.length a8)) (ok:=(fun k_=>some k_≠(.slice aw Z.length ax:Value).ownBlock∧some k_≠(dq:Value).ownBlock)) (by(with_reducible repeat(first|apply Kd.R_alloc|apply Kd.R_drewN|apply Kd.R_drew));exact Kd.R_mono HO_630002.out (fun _ hk=>⟨⟨hk.1.2,hk.2⟩,hk.1.1⟩)) hg (.inl rfl));replace D:=bkG D hg (Kd.R_ne HO_13.out D.out zc);replace G:=bkG G hg (Kd.R_ne HO_13.out G.out zc);replace I:=bkG I hg (Kd.R_ne HO_13.out I.out zc);replace HO_13:=aK (hp_);replace de:=aK (Kd.R_after (v:=(.slice (some ⟨be,0,none⟩) Y.length a8)) (v1:=(.slice (some ⟨be,0,none⟩) Y.length a8)) (ok:=(fun k_=>some k_≠(.slice aw Z.length ax:Value).ownBlock∧some k_≠(.slice ay ac.length az:Value).ownBlock)) (by(with_reducible repeat(first|apply Kd.R_alloc|apply Kd.R_drewN|apply Kd.R_drew));exact Kd.R_mono de.out (fun _ hk=>⟨⟨hk.2.1,hk.2.2⟩,hk.1⟩)) hg (.inl rfl));replace HB:=aK ((by rw[hw];exact below_set (HB.out) j8.out:Below w.heap.size w fo));clear hg hw hp_))
           go_roundg k2
           case measure=>have:=en.out;have:=eo.out;omega
           case rel=>exact⟨(el),(ek),(wrap64 (ai+1)),rsE,H',⟨by have:=en.out;have:=eo.out;omega⟩,⟨by(with_reducible repeat(first|apply Kd.R_alloc|apply Kd.R_drewN|apply Kd.R_drew));exact Kd.R_mono HO_13.out (fun _ hk=>⟨hk.2.2,⟨hk.1,hk.2.1⟩⟩)⟩,⟨by(with_reducible repeat(first|apply Kd.R_alloc|apply Kd.R_drewN|apply Kd.R_drew));exact Kd.R_mono de.out (fun _ hk=>⟨hk.2,⟨hk.1.1,hk.1.2⟩⟩)⟩,⟨by(with_reducible repeat(first|apply Kd.R_alloc|apply Kd.R_drewN|apply Kd.R_drew));exact Kd.R_mono HO_622002.out (fun _ hk=>⟨hk.2,⟨hk.1.2,hk.1.1⟩⟩)⟩,⟨by(with_reducible repeat(first|apply Kd.R_alloc|apply Kd.R_drewN|apply Kd.R_drew));exact Kd.R_mono HO_630002.out (fun _ hk=>⟨hk.2,⟨hk.1.2,hk.1.1⟩⟩)⟩,⟨bkA D.out⟩,⟨bkA G.out⟩,⟨bkA I.out⟩,⟨hbA HB.out⟩⟩
          ·rw[if_neg es]at H
           exact absurd H zd
         ·rw[if_neg er]at H
          exact absurd H zd
        ·replace ep:=Bool.eq_false_iff.mpr ep;subst ep;rw[if_neg nofT]at H
         have H':=aK H;clear H;obtain⟨ob,oo,kd⟩:=Kd.R_slice HO_13.out;subst kd
         go_wp2_with (first|((with_reducible refine gC 26 rfl ?_);refine cG (some 98) Tryd.func26 #[.int .u64 a1,.int .i64 ai] ?_;(with_reducible refine(recoupref06_Has.calls a1 ai false _ j6.out).mono ?_);rintro e w' ⟨rfl,⟨nd,rfl⟩⟩;refine⟨_,rfl,?_⟩))
         go_roundg k2
         case measure=>have:=en.out;have:=eo.out;omega
         case rel=>exact⟨(Y),(bb),(wrap64 (ai+1)),rsE,H',⟨by have:=en.out;have:=eo.out;omega⟩,⟨kdA HO_13.out⟩,⟨kdA HO_15.out⟩,⟨kdA HO_622002.out⟩,⟨kdA HO_630002.out⟩,⟨bkA D.out⟩,⟨bkA G.out⟩,⟨bkA I.out⟩,⟨hbA HB.out⟩⟩
       ·rw[if_neg dv]at H
        have c46b0:decide (ai<(Y.length:Int))=false:=decide_eq_false dv;clear dv;obtain⟨⟨bj,bc⟩,dx,H⟩:=bindO H
        (try dsimp only at H)
        obtain⟨⟨bk,bd⟩,dy,H⟩:=bindO H
        (try dsimp only at H)
        obtain⟨ly,dz,H⟩:=bindO H
        (try dsimp only at H)
        by_cases et:ly=true
        ·subst et;rw[if_pos rfl]at H
         by_cases dg:bc=0
         ·rw[if_pos dg]at H
          have c61b0:(bc==0)=true:=beq_iff_eq.mpr dg;have c61b1:(bc !=0)=false:=bne_eq_false_iff_eq.mpr dg;clear dg;by_cases dh:bd=0
          ·rw[if_pos dh]at H
           have c62b0:(bd==0)=true:=beq_iff_eq.mpr dh;have c62b1:(bd !=0)=false:=bne_eq_false_iff_eq.mpr dh;clear dh;obtain⟨lz,j7,H⟩:=bindO H
           (try dsimp only at H)
           by_cases eu:lz=true
           ·subst eu;rw[if_pos rfl]at H
            obtain⟨l1,mz,H⟩:=bindO H
            (try dsimp only at H)
            obtain rfl:=Option.some.inj H;obtain⟨ew,e1,ke⟩:=Kd.R_slice HO_13.out;subst ke;have ne:=al.out;have ny:=L.out;have nf:=X.out;have nz:=aq.out;obtain⟨ko,kp,kr,k8,k9,la⟩:=cell3 G
            go_wp2_with (first|((with_reducible refine gC 25 rfl ?_);refine cG (some 116) Tryd.func25 #[.agg #[.int .i64 ag,.int .i64 aj,.slice aw Z.length ax],.slice ew Y.length e1] ?_;(with_reducible refine(recoupref03_Apply.calls k2 ag aj _ _ Z _ _ Y bj bc _ ?side1 ?side2 ?side3 ?side4 dx.out).mono ?_);(case side1=>exact kcA (Kd.R_reads' HO_622002.out).2.2);(case side2=>exact(Kd.R_reads' HO_622002.out).2.1);(case side3=>exact kcA (Kd.R_reads' HO_13.out).2.2);(case side4=>exact(Kd.R_reads' HO_13.out).2.1);rintro e p1 ⟨dr,rfl,U,hb⟩;refine⟨_,rfl,?_⟩;have af:=aK (Kd.R_lower (Kd.R_new' (Kd.R_new' (Kd.R_new' (Kd.R_new' U (Kd.R_lt (kdA HO_13.out))) (Kd.R_lt (kdA HO_15.out))) (Kd.R_lt (kdA HO_622002.out))) (Kd.R_lt (kdA HO_630002.out))) (below_size (hbA HB.out)));replace HO_13:=aK (Kd.R_elder' (kdA HO_13.out) (Kd.R_base U) hb);replace HO_15:=aK (Kd.R_elder' (kdA HO_15.out) (Kd.R_base U) hb);replace HO_622002:=aK (Kd.R_elder' (kdA HO_622002.out) (Kd.R_base U) hb);replace HO_630002:=aK (Kd.R_elder' (kdA HO_630002.out) (Kd.R_base U) hb);replace D:=bkB D hb;replace G:=bkB G hb;replace I:=bkB I hb;replace HB:=hbB HB hb;(try clear hb);(try clear U);have ng:=am.out;have n0:=O.out;obtain⟨ks,kt,ku,lb,lc,ld⟩:=cell3 I)|((with_reducible refine gC 25 rfl ?_);refine cG (some 122) Tryd.func25 #[.agg #[.int .i64 ak,.int .i64 ao,.slice ay ac.length az],.slice ew Y.length e1] ?_;(with_reducible refine(recoupref03_Apply.calls k2 ak ao _ _ ac _ _ Y bk bd _ ?side1 ?side2 ?side3 ?side4 dy.out).mono ?_);(case side1=>exact kcA (Kd.R_reads' HO_630002.out).2.2);(case side2=>exact(Kd.R_reads' HO_630002.out).2.1);(case side3=>exact kcA (Kd.R_reads' HO_13.out).2.2);(case side4=>exact(Kd.R_reads' HO_13.out).2.1);rintro e p3 ⟨dt,rfl,U,hb⟩;refine⟨_,rfl,?_⟩;have a0:=aK (Kd.R_lower (Kd.R_new' (Kd.R_new' (Kd.R_new' (Kd.R_new' (Kd.R_new' U (Kd.R_lt (kdA HO_13.out))) (Kd.R_lt (kdA HO_15.out))) (Kd.R_lt (kdA HO_622002.out))) (Kd.R_lt (kdA HO_630002.out))) (Kd.R_lt (kdA af.out))) (below_size (hbA HB.out)));replace HO_13:=aK (Kd.R_elder' (kdA HO_13.out) (Kd.R_base U) hb);replace HO_15:=aK (Kd.R_elder' (kdA HO_15.out) (Kd.R_base U) hb);replace HO_622002:=aK (Kd.R_elder' (kdA HO_622002.out) (Kd.R_base U) hb);replace HO_630002:=aK (Kd.R_elder' (kdA HO_630002.out) (Kd.R_base U) hb);replace af:=aK (Kd.R_elder' (kdA af.out) (Kd.R_base U) hb);replace D:=bkB D hb;replace G:=bkB G hb;replace I:=bkB I hb;replace HB:=hbB HB hb;(try clear hb);(try clear U))|((with_reducible refine gC 14 rfl ?_);refine cG (some 125) Tryd.func14 #[] ?_;(with_reducible refine(recouplaw18_anchored.calls k2 true _ dz.out (tBves HT.out HB)).mono ?_);rintro e p4 ⟨rfl,hb⟩;refine⟨_,rfl,?_⟩;replace HO_13:=kdB HO_13 hb;replace HO_15:=kdB HO_15 hb;replace HO_622002:=kdB HO_622002 hb;replace HO_630002:=kdB HO_630002 hb;replace af:=kdB af hb;replace a0:=kdB a0 hb;replace D:=bkB D hb;replace G:=bkB G hb;replace I:=bkB I hb;replace HB:=hbB HB hb;(try clear hb);obtain⟨oc,op,kf⟩:=Kd.R_slice af.out;subst kf)|(go_at_call 27;(with_reducible refine(recoupref01_Same.calls _ _ bj _ _ l2 true _ ?side1 ?side2 ?side3 ?side4 j7.out).mono ?_);(case side1=>exact kcA (Kd.R_reads' af.out).2.2);(case side2=>exact(Kd.R_reads' af.out).2.1);(case side3=>exact kcB fb HB);(case side4=>exact e8.out);rintro e w' ⟨rfl,⟨nd,rfl⟩⟩;obtain⟨od,oq,kg⟩:=Kd.R_slice a0.out;subst kg;obtain⟨oe,os,kh⟩:=Kd.R_slice HO_15.out;subst kh)|(go_at_call 27;(with_reducible refine(recoupref01_Same.calls _ _ bk _ _ bb l1 _ ?side1 ?side2 ?side3 ?side4 mz.out).mono ?_);(case side1=>exact kcA (Kd.R_reads' a0.out).2.2);(case side2=>exact(Kd.R_reads' a0.out).2.1);(case side3=>exact kcA (Kd.R_reads' HO_15.out).2.2);(case side4=>exact(Kd.R_reads' HO_15.out).2.1);rintro e w' ⟨rfl,⟨nd,rfl⟩⟩))
            go_ret
            exact⟨rfE,hbA HB.out⟩
           ·replace eu:=Bool.eq_false_iff.mpr eu;subst eu;rw[if_neg nofT]at H
            obtain rfl:=Option.some.inj H;obtain⟨ex,e2,ki⟩:=Kd.R_slice HO_13.out;subst ki;have nh:=al.out;have n1:=L.out;have ni:=X.out;have n2:=aq.out;obtain⟨kv,kw,kx,le,lf,lg⟩:=cell3 G
            go_wp2_with (first|((with_reducible refine gC 25 rfl ?_);refine cG (some 116) Tryd.func25 #[.agg #[.int .i64 ag,.int .i64 aj,.slice aw Z.length ax],.slice ex Y.length e2] ?_;(with_reducible refine(recoupref03_Apply.calls k2 ag aj _ _ Z _ _ Y bj bc _ ?side1 ?side2 ?side3 ?side4 dx.out).mono ?_);(case side1=>exact kcA (Kd.R_reads' HO_622002.out).2.2);(case side2=>exact(Kd.R_reads' HO_622002.out).2.1);(case side3=>exact kcA (Kd.R_reads' HO_13.out).2.2);(case side4=>exact(Kd.R_reads' HO_13.out).2.1);rintro e p5 ⟨dr,rfl,U,hb⟩;refine⟨_,rfl,?_⟩;have af:=aK (Kd.R_lower (Kd.R_new' (Kd.R_new' (Kd.R_new' (Kd.R_new' U (Kd.R_lt (kdA HO_13.out))) (Kd.R_lt (kdA HO_15.out))) (Kd.R_lt (kdA HO_622002.out))) (Kd.R_lt (kdA HO_630002.out))) (below_size (hbA HB.out)));replace HO_13:=aK (Kd.R_elder' (kdA HO_13.out) (Kd.R_base U) hb);replace HO_15:=aK (Kd.R_elder' (kdA HO_15.out) (Kd.R_base U) hb);replace HO_622002:=aK (Kd.R_elder' (kdA HO_622002.out) (Kd.R_base U) hb);replace HO_630002:=aK (Kd.R_elder' (kdA HO_630002.out) (Kd.R_base U) hb);replace D:=bkB D hb;replace G:=bkB G hb;replace I:=bkB I hb;replace HB:=hbB HB hb;(try clear hb);(try clear U);have nj:=am.out;have n3:=O.out;obtain⟨ky,kz,k0,lh,ll,lm⟩:=cell3 I)|((with_reducible refine gC 25 rfl ?_);refine cG (some 122) Tryd.func25 #[.agg #[.int .i64 ak,.int .i64 ao,.slice ay ac.length az],.slice ex Y.length e2] ?_;(with_reducible refine(recoupref03_Apply.calls k2 ak ao _ _ ac _ _ Y bk bd _ ?side1 ?side2 ?side3 ?side4 dy.out).mono ?_);(case side1=>exact kcA (Kd.R_reads' HO_630002.out).2.2);(case side2=>exact(Kd.R_reads' HO_630002.out).2.1);(case side3=>exact kcA (Kd.R_reads' HO_13.out).2.2);(case side4=>exact(Kd.R_reads' HO_13.out).2.1);rintro e p6 ⟨dt,rfl,U,hb⟩;refine⟨_,rfl,?_⟩;have a0:=aK (Kd.R_lower (Kd.R_new' (Kd.R_new' (Kd.R_new' (Kd.R_new' (Kd.R_new' U (Kd.R_lt (kdA HO_13.out))) (Kd.R_lt (kdA HO_15.out))) (Kd.R_lt (kdA HO_622002.out))) (Kd.R_lt (kdA HO_630002.out))) (Kd.R_lt (kdA af.out))) (below_size (hbA HB.out)));replace HO_13:=aK (Kd.R_elder' (kdA HO_13.out) (Kd.R_base U) hb);replace HO_15:=aK (Kd.R_elder' (kdA HO_15.out) (Kd.R_base U) hb);replace HO_622002:=aK (Kd.R_elder' (kdA HO_622002.out) (Kd.R_base U) hb);replace HO_630002:=aK (Kd.R_elder' (kdA HO_630002.out) (Kd.R_base U) hb);replace af:=aK (Kd.R_elder' (kdA af.out) (Kd.R_base U) hb);replace D:=bkB D hb;replace G:=bkB G hb;replace I:=bkB I hb;replace HB:=hbB HB hb;(try clear hb);(try clear U))|((with_reducible refine gC 14 rfl ?_);refine cG (some 125) Tryd.func14 #[] ?_;(with_reducible refine(recouplaw18_anchored.calls k2 true _ dz.out (tBves HT.out HB)).mono ?_);rintro e p7 ⟨rfl,hb⟩;refine⟨_,rfl,?_⟩;replace HO_13:=kdB HO_13 hb;replace HO_15:=kdB HO_15 hb;replace HO_622002:=kdB HO_622002 hb;replace HO_630002:=kdB HO_630002 hb;replace af:=kdB af hb;replace a0:=kdB a0 hb;replace D:=bkB D hb;replace G:=bkB G hb;replace I:=bkB I hb;replace HB:=hbB HB hb;(try clear hb);obtain⟨og,ot,kj⟩:=Kd.R_slice af.out;subst kj)|(go_at_call 27;(with_reducible refine(recoupref01_Same.calls _ _ bj _ _ l2 false _ ?side1 ?side2 ?side3 ?side4 j7.out).mono ?_);(case side1=>exact kcA (Kd.R_reads' af.out).2.2);(case side2=>exact(Kd.R_reads' af.out).2.1);(case side3=>exact kcB fb HB);(case side4=>exact e8.out);rintro e w' ⟨rfl,⟨nd,rfl⟩⟩))
            go_ret
            exact⟨rfE,hbA HB.out⟩
          ·rw[if_neg dh]at H
           have c62b0:(bd==0)=false:=beq_eq_false_iff_ne.mpr dh;have c62b1:(bd !=0)=true:=bne_iff_ne.mpr dh;obtain rfl:=Option.some.inj H;obtain⟨ey,e3,kk⟩:=Kd.R_slice HO_13.out;subst kk;have nk:=al.out;have n4:=L.out;have nl:=X.out;have n5:=aq.out;obtain⟨k1,k3,k4,ln,lp,lq⟩:=cell3 G
           go_wp2_with (first|((with_reducible refine gC 25 rfl ?_);refine cG (some 116) Tryd.func25 #[.agg #[.int .i64 ag,.int .i64 aj,.slice aw Z.length ax],.slice ey Y.length e3] ?_;(with_reducible refine(recoupref03_Apply.calls k2 ag aj _ _ Z _ _ Y bj bc _ ?side1 ?side2 ?side3 ?side4 dx.out).mono ?_);(case side1=>exact kcA (Kd.R_reads' HO_622002.out).2.2);(case side2=>exact(Kd.R_reads' HO_622002.out).2.1);(case side3=>exact kcA (Kd.R_reads' HO_13.out).2.2);(case side4=>exact(Kd.R_reads' HO_13.out).2.1);rintro e p8 ⟨dr,rfl,U,hb⟩;refine⟨_,rfl,?_⟩;have af:=aK (Kd.R_lower (Kd.R_new' (Kd.R_new' (Kd.R_new' (Kd.R_new' U (Kd.R_lt (kdA HO_13.out))) (Kd.R_lt (kdA HO_15.out))) (Kd.R_lt (kdA HO_622002.out))) (Kd.R_lt (kdA HO_630002.out))) (below_size (hbA HB.out)));replace HO_13:=aK (Kd.R_elder' (kdA HO_13.out) (Kd.R_base U) hb);replace HO_15:=aK (Kd.R_elder' (kdA HO_15.out) (Kd.R_base U) hb);replace HO_622002:=aK (Kd.R_elder' (kdA HO_622002.out) (Kd.R_base U) hb);replace HO_630002:=aK (Kd.R_elder' (kdA HO_630002.out) (Kd.R_base U) hb);replace D:=bkB D hb;replace G:=bkB G hb;replace I:=bkB I hb;replace HB:=hbB HB hb;(try clear hb);(try clear U);have nm:=am.out;have n6:=O.out;obtain⟨k5,k6,k7,lr,ls,lt⟩:=cell3 I)|((with_reducible refine gC 25 rfl ?_);refine cG (some 122) Tryd.func25 #[.agg #[.int .i64 ak,.int .i64 ao,.slice ay ac.length az],.slice ey Y.length e3] ?_;(with_reducible refine(recoupref03_Apply.calls k2 ak ao _ _ ac _ _ Y bk bd _ ?side1 ?side2 ?side3 ?side4 dy.out).mono ?_);(case side1=>exact kcA (Kd.R_reads' HO_630002.out).2.2);(case side2=>exact(Kd.R_reads' HO_630002.out).2.1);(case side3=>exact kcA (Kd.R_reads' HO_13.out).2.2);(case side4=>exact(Kd.R_reads' HO_13.out).2.1);rintro e p9 ⟨dt,rfl,U,hb⟩;refine⟨_,rfl,?_⟩;have a0:=aK (Kd.R_lower (Kd.R_new' (Kd.R_new' (Kd.R_new' (Kd.R_new' (Kd.R_new' U (Kd.R_lt (kdA HO_13.out))) (Kd.R_lt (kdA HO_15.out))) (Kd.R_lt (kdA HO_622002.out))) (Kd.R_lt (kdA HO_630002.out))) (Kd.R_lt (kdA af.out))) (below_size (hbA HB.out)));replace HO_13:=aK (Kd.R_elder' (kdA HO_13.out) (Kd.R_base U) hb);replace HO_15:=aK (Kd.R_elder' (kdA HO_15.out) (Kd.R_base U) hb);replace HO_622002:=aK (Kd.R_elder' (kdA HO_622002.out) (Kd.R_base U) hb);replace HO_630002:=aK (Kd.R_elder' (kdA HO_630002.out) (Kd.R_base U) hb);replace af:=aK (Kd.R_elder' (kdA af.out) (Kd.R_base U) hb);replace D:=bkB D hb;replace G:=bkB G hb;replace I:=bkB I hb;replace HB:=hbB HB hb;(try clear hb);(try clear U))|((with_reducible refine gC 14 rfl ?_);refine cG (some 125) Tryd.func14 #[] ?_;(with_reducible refine(recouplaw18_anchored.calls k2 true _ dz.out (tBves HT.out HB)).mono ?_);rintro e qa ⟨rfl,hb⟩;refine⟨_,rfl,?_⟩;replace HO_13:=kdB HO_13 hb;replace HO_15:=kdB HO_15 hb;replace HO_622002:=kdB HO_622002 hb;replace HO_630002:=kdB HO_630002 hb;replace af:=kdB af hb;replace a0:=kdB a0 hb;replace D:=bkB D hb;replace G:=bkB G hb;replace I:=bkB I hb;replace HB:=hbB HB hb;(try clear hb)))
           go_ret
           exact⟨rfE,hbA HB.out⟩
         ·rw[if_neg dg]at H
          have c61b0:(bc==0)=false:=beq_eq_false_iff_ne.mpr dg;have c61b1:(bc !=0)=true:=bne_iff_ne.mpr dg;obtain rfl:=Option.some.inj H;obtain⟨ez,e4,kl⟩:=Kd.R_slice HO_13.out;subst kl;have nn:=al.out;have n7:=L.out;have np:=X.out;have n8:=aq.out;obtain⟨fp,fq,fs,ig,ii,ij⟩:=cell3 G
          go_wp2_with (first|((with_reducible refine gC 25 rfl ?_);refine cG (some 116) Tryd.func25 #[.agg #[.int .i64 ag,.int .i64 aj,.slice aw Z.length ax],.slice ez Y.length e4] ?_;(with_reducible refine(recoupref03_Apply.calls k2 ag aj _ _ Z _ _ Y bj bc _ ?side1 ?side2 ?side3 ?side4 dx.out).mono ?_);(case side1=>exact kcA (Kd.R_reads' HO_622002.out).2.2);(case side2=>exact(Kd.R_reads' HO_622002.out).2.1);(case side3=>exact kcA (Kd.R_reads' HO_13.out).2.2);(case side4=>exact(Kd.R_reads' HO_13.out).2.1);rintro e ov ⟨dr,rfl,U,hb⟩;refine⟨_,rfl,?_⟩;have af:=aK (Kd.R_lower (Kd.R_new' (Kd.R_new' (Kd.R_new' (Kd.R_new' U (Kd.R_lt (kdA HO_13.out))) (Kd.R_lt (kdA HO_15.out))) (Kd.R_lt (kdA HO_622002.out))) (Kd.R_lt (kdA HO_630002.out))) (below_size (hbA HB.out)));replace HO_13:=aK (Kd.R_elder' (kdA HO_13.out) (Kd.R_base U) hb);replace HO_15:=aK (Kd.R_elder' (kdA HO_15.out) (Kd.R_base U) hb);replace HO_622002:=aK (Kd.R_elder' (kdA HO_622002.out) (Kd.R_base U) hb);replace HO_630002:=aK (Kd.R_elder' (kdA HO_630002.out) (Kd.R_base U) hb);replace D:=bkB D hb;replace G:=bkB G hb;replace I:=bkB I hb;replace HB:=hbB HB hb;(try clear hb);(try clear U);have l5:=am.out;have mj:=O.out;obtain⟨ft,fu,fv,ik,il,im⟩:=cell3 I)|((with_reducible refine gC 25 rfl ?_);refine cG (some 122) Tryd.func25 #[.agg #[.int .i64 ak,.int .i64 ao,.slice ay ac.length az],.slice ez Y.length e4] ?_;(with_reducible refine(recoupref03_Apply.calls k2 ak ao _ _ ac _ _ Y bk bd _ ?side1 ?side2 ?side3 ?side4 dy.out).mono ?_);(case side1=>exact kcA (Kd.R_reads' HO_630002.out).2.2);(case side2=>exact(Kd.R_reads' HO_630002.out).2.1);(case side3=>exact kcA (Kd.R_reads' HO_13.out).2.2);(case side4=>exact(Kd.R_reads' HO_13.out).2.1);rintro e ow ⟨dt,rfl,U,hb⟩;refine⟨_,rfl,?_⟩;have a0:=aK (Kd.R_lower (Kd.R_new' (Kd.R_new' (Kd.R_new' (Kd.R_new' (Kd.R_new' U (Kd.R_lt (kdA HO_13.out))) (Kd.R_lt (kdA HO_15.out))) (Kd.R_lt (kdA HO_622002.out))) (Kd.R_lt (kdA HO_630002.out))) (Kd.R_lt (kdA af.out))) (below_size (hbA HB.out)));replace HO_13:=aK (Kd.R_elder' (kdA HO_13.out) (Kd.R_base U) hb);replace HO_15:=aK (Kd.R_elder' (kdA HO_15.out) (Kd.R_base U) hb);replace HO_622002:=aK (Kd.R_elder' (kdA HO_622002.out) (Kd.R_base U) hb);replace HO_630002:=aK (Kd.R_elder' (kdA HO_630002.out) (Kd.R_base U) hb);replace af:=aK (Kd.R_elder' (kdA af.out) (Kd.R_base U) hb);replace D:=bkB D hb;replace G:=bkB G hb;replace I:=bkB I hb;replace HB:=hbB HB hb;(try clear hb);(try clear U))|((with_reducible refine gC 14 rfl ?_);refine cG (some 125) Tryd.func14 #[] ?_;(with_reducible refine(recouplaw18_anchored.calls k2 true _ dz.out (tBves HT.out HB)).mono ?_);rintro e ox ⟨rfl,hb⟩;refine⟨_,rfl,?_⟩;replace HO_13:=kdB HO_13 hb;replace HO_15:=kdB HO_15 hb;replace HO_622002:=kdB HO_622002 hb;replace HO_630002:=kdB HO_630002 hb;replace af:=kdB af hb;replace a0:=kdB a0 hb;replace D:=bkB D hb;replace G:=bkB G hb;replace I:=bkB I hb;replace HB:=hbB HB hb;(try clear hb)))
          go_ret
          exact⟨rfE,hbA HB.out⟩
        ·replace et:=Bool.eq_false_iff.mpr et;subst et;rw[if_neg nofT]at H
         obtain rfl:=Option.some.inj H;obtain⟨d0,d4,ff⟩:=Kd.R_slice HO_13.out;subst ff;have l6:=al.out;have ml:=L.out;have l7:=X.out;have mm:=aq.out;obtain⟨fw,fx,fy,io,ip,iq⟩:=cell3 G
         go_wp2_with (first|((with_reducible refine gC 25 rfl ?_);refine cG (some 116) Tryd.func25 #[.agg #[.int .i64 ag,.int .i64 aj,.slice aw Z.length ax],.slice d0 Y.length d4] ?_;(with_reducible refine(recoupref03_Apply.calls k2 ag aj _ _ Z _ _ Y bj bc _ ?side1 ?side2 ?side3 ?side4 dx.out).mono ?_);(case side1=>exact kcA (Kd.R_reads' HO_622002.out).2.2);(case side2=>exact(Kd.R_reads' HO_622002.out).2.1);(case side3=>exact kcA (Kd.R_reads' HO_13.out).2.2);(case side4=>exact(Kd.R_reads' HO_13.out).2.1);rintro e oy ⟨dr,rfl,U,hb⟩;refine⟨_,rfl,?_⟩;have af:=aK (Kd.R_lower (Kd.R_new' (Kd.R_new' (Kd.R_new' (Kd.R_new' U (Kd.R_lt (kdA HO_13.out))) (Kd.R_lt (kdA HO_15.out))) (Kd.R_lt (kdA HO_622002.out))) (Kd.R_lt (kdA HO_630002.out))) (below_size (hbA HB.out)));replace HO_13:=aK (Kd.R_elder' (kdA HO_13.out) (Kd.R_base U) hb);replace HO_15:=aK (Kd.R_elder' (kdA HO_15.out) (Kd.R_base U) hb);replace HO_622002:=aK (Kd.R_elder' (kdA HO_622002.out) (Kd.R_base U) hb);replace HO_630002:=aK (Kd.R_elder' (kdA HO_630002.out) (Kd.R_base U) hb);replace D:=bkB D hb;replace G:=bkB G hb;replace I:=bkB I hb;replace HB:=hbB HB hb;(try clear hb);(try clear U);have l8:=am.out;have mn:=O.out;obtain⟨fz,f0,f1,ir,it,iu⟩:=cell3 I)|((with_reducible refine gC 25 rfl ?_);refine cG (some 122) Tryd.func25 #[.agg #[.int .i64 ak,.int .i64 ao,.slice ay ac.length az],.slice d0 Y.length d4] ?_;(with_reducible refine(recoupref03_Apply.calls k2 ak ao _ _ ac _ _ Y bk bd _ ?side1 ?side2 ?side3 ?side4 dy.out).mono ?_);(case side1=>exact kcA (Kd.R_reads' HO_630002.out).2.2);(case side2=>exact(Kd.R_reads' HO_630002.out).2.1);(case side3=>exact kcA (Kd.R_reads' HO_13.out).2.2);(case side4=>exact(Kd.R_reads' HO_13.out).2.1);rintro e oz ⟨dt,rfl,U,hb⟩;refine⟨_,rfl,?_⟩;have a0:=aK (Kd.R_lower (Kd.R_new' (Kd.R_new' (Kd.R_new' (Kd.R_new' (Kd.R_new' U (Kd.R_lt (kdA HO_13.out))) (Kd.R_lt (kdA HO_15.out))) (Kd.R_lt (kdA HO_622002.out))) (Kd.R_lt (kdA HO_630002.out))) (Kd.R_lt (kdA af.out))) (below_size (hbA HB.out)));replace HO_13:=aK (Kd.R_elder' (kdA HO_13.out) (Kd.R_base U) hb);replace HO_15:=aK (Kd.R_elder' (kdA HO_15.out) (Kd.R_base U) hb);replace HO_622002:=aK (Kd.R_elder' (kdA HO_622002.out) (Kd.R_base U) hb);replace HO_630002:=aK (Kd.R_elder' (kdA HO_630002.out) (Kd.R_base U) hb);replace af:=aK (Kd.R_elder' (kdA af.out) (Kd.R_base U) hb);replace D:=bkB D hb;replace G:=bkB G hb;replace I:=bkB I hb;replace HB:=hbB HB hb;(try clear hb);(try clear U))|((with_reducible refine gC 14 rfl ?_);refine cG (some 125) Tryd.func14 #[] ?_;(with_reducible refine(recouplaw18_anchored.calls k2 false _ dz.out (tBves HT.out HB)).mono ?_);rintro e o0 ⟨rfl,hb⟩;refine⟨_,rfl,?_⟩;replace HO_13:=kdB HO_13 hb;replace HO_15:=kdB HO_15 hb;replace HO_622002:=kdB HO_622002 hb;replace HO_630002:=kdB HO_630002 hb;replace af:=kdB af hb;replace a0:=kdB a0 hb;replace D:=bkB D hb;replace G:=bkB G hb;replace I:=bkB I hb;replace HB:=hbB HB hb;(try clear hb)))
         go_ret
         exact⟨rfE,hbA HB.out⟩
 ·replace c7:=Bool.eq_false_iff.mpr c7;subst c7;rw[if_neg nofT]at H
  obtain⟨eh,dw,H⟩:=bindO H
  (try dsimp only at H)
  by_cases dn:eh=true
  ·subst dn;rw[if_pos rfl]at H
   by_cases bg:a3=0
   ·rw[if_pos bg]at H
    have c117b0:(a3==0)=true:=beq_iff_eq.mpr bg;have c117b1:(a3 !=0)=false:=bne_eq_false_iff_eq.mpr bg;clear bg;obtain rfl:=Option.some.inj H
    go_enter Tryd.func7,Tryd.ntmps7
    go_wp2_with (first|((with_reducible refine gD 3 rfl ?_);(try(refine gate_guard ze ?_;dsimp only));refine bE 3 #[.int .i64 ae,.int .i64 ab,.slice ar aa.length au] 24 ?_;intro av hg o1 hbox hb;have D:=aK (hbox);have db:=aK ((by rw[hg];exact(below_size zm):w.heap.size≤av));have c8:=aK ((by rw[hg];exact(below_size zm):w.heap.size≤av));replace HB:=aK (below_step zm hb);clear hb hbox hg;obtain⟨f2,f3,f4,iv,iw,ix⟩:=cell3 D)|((with_reducible refine gC 20 rfl ?_);refine cG (some 24) Tryd.func20 #[.agg #[.int .i64 ae,.int .i64 ab,.slice ar aa.length au],.int .u64 a1] ?_;(with_reducible refine(verdict_Decode.calls k ae ab _ _ aa a1 ag aj Z a9 a3 _ ?side1 ?side2 A4.out (tBves HT.out HB)).mono ?_);(case side1=>exact kcB a5 HB);(case side2=>exact a4.out);rintro e o2 ⟨ei,rfl,U,hb⟩;refine⟨_,rfl,?_⟩;have J:=aK (Kd.R_lower U (below_size (hbA HB.out)));replace D:=bkB D hb;replace HB:=hbB HB hb;(try clear hb);(try clear U))|((with_reducible refine gD 7 rfl ?_);(try(refine gate_guard ze ?_;dsimp only));refine bE 7 #[.int .i64 0,.int .i64 0,.slice none 0 0] 24 ?_;intro a2 hg o3 hbox hb;replace J:=kdB J hb;have G:=aK (hbox);have dc:=hbS HB hg;have c9:=hbS HB hg;replace HB:=hbB HB hb;have L:=neL D hg;have al:=neG D hg;replace D:=bkB D hb;clear hb hbox hg;have l9:=al.out;have mo:=L.out;obtain⟨f5,f6,f7,iy,iz,i1⟩:=cell3 G;obtain⟨bl,bq,fg⟩:=Kd.R_slice J.out;subst fg;obtain⟨f8,f9,ga,i2,i3,i4⟩:=cell3 D)|((with_reducible refine gC 22 rfl ?_);refine cG (some 31) Tryd.func22 #[.agg #[.int .i64 ae,.int .i64 ab,.slice ar aa.length au],.int .u64 a1] ?_;(with_reducible refine(verdict_Rebuild.calls k ae ab _ _ aa a1 ak ao ac ba a7 _ ?side1 ?side2 A5.out (tBves HT.out HB)).mono ?_);(case side1=>exact Kd.C_below a5.out (hbA HB.out));(case side2=>exact a4.out);rintro e o4 ⟨ej,rfl,U,hb⟩;refine⟨_,rfl,?_⟩;have ah:=aK (Kd.R_lower (Kd.R_new' U (Kd.R_lt (by(with_reducible repeat(first|apply Kd.R_alloc|apply Kd.R_drewN|apply Kd.R_drew));exact(fRves J.out G.out (.int .i64 ag) (.int .i64 aj) (.slice bl Z.length bq))))) (below_size (hbA HB.out)));replace J:=aK (Kd.R_elder' (by(with_reducible repeat(first|apply Kd.R_alloc|apply Kd.R_drewN|apply Kd.R_drew));exact(fRves J.out G.out (.int .i64 ag) (.int .i64 aj) (.slice bl Z.length bq))) (Kd.R_base U) hb);replace D:=aK (blk_below (g:=av) (o:= .cells #[.int .i64 ae,.int .i64 ab,.slice ar aa.length au] 24 (0,0)) zz hb);replace G:=aK (blk_below (g:=a2) (o:= .cells #[.int .i64 ag,.int .i64 aj,.slice bl Z.length bq] 24 (0,0)) zx hb);replace HB:=hbB HB hb;(try clear hb);(try clear U))|((with_reducible refine gD 10 rfl ?_);(try(refine gate_guard ze ?_;dsimp only));refine bE 10 #[.int .i64 0,.int .i64 0,.slice none 0 0] 24 ?_;intro a6 hg o5 hbox hb;replace J:=kdB J hb;replace ah:=kdB ah hb;have I:=aK (hbox);have dd:=hbS HB hg;have da:=hbS HB hg;replace HB:=hbB HB hb;have O:=neL D hg;have am:=neG D hg;replace D:=bkB D hb;have X:=neL G hg;have aq:=neG G hg;replace G:=bkB G hb;clear hb hbox hg;have ma:=am.out;have mp:=O.out;have mb:=aq.out;have mq:=X.out;obtain⟨gb,gc,ge,i5,i6,i7⟩:=cell3 I;obtain⟨cz,di,fh⟩:=Kd.R_slice ah.out;subst fh;obtain⟨gf,gg,gh,i8,i9,ja⟩:=cell3 D)|((with_reducible refine gC 13 rfl ?_);refine cG (some 37) Tryd.func13 #[.agg #[.int .i64 ae,.int .i64 ab,.slice ar aa.length au],.int .u64 a1] ?_;(with_reducible refine(recouplaw18_generator.calls k ae ab _ _ aa a1 false _ ?side1 ?side2 A6.out).mono ?_);(case side1=>exact Kd.C_below a5.out (hbA HB.out));(case side2=>exact a4.out);rintro e o6 ⟨rfl,hb⟩;refine⟨_,rfl,?_⟩;replace J:=aK (Kd.R_below (by(with_reducible repeat(first|apply Kd.R_alloc|apply Kd.R_drewN|apply Kd.R_drew));exact(fRves J.out I.out (.int .i64 ak) (.int .i64 ao) (.slice cz ac.length di))) hb);replace ah:=aK (Kd.R_below (by(with_reducible repeat(first|apply Kd.R_alloc|apply Kd.R_drewN|apply Kd.R_drew));exact(fRves ah.out I.out (.int .i64 ak) (.int .i64 ao) (.slice cz ac.length di))) hb);replace D:=aK (blk_below (g:=av) (o:= .cells #[.int .i64 ae,.int .i64 ab,.slice ar aa.length au] 24 (0,0)) zo hb);replace G:=aK (blk_below (g:=a2) (o:= .cells #[.int .i64 ag,.int .i64 aj,.slice bl Z.length bq] 24 (0,0)) zy hb);replace I:=aK (blk_below (g:=a6) (o:= .cells #[.int .i64 ak,.int .i64 ao,.slice cz ac.length di] 24 (0,0)) zw hb);replace HB:=hbB HB hb;(try clear hb))|((with_reducible refine gC 14 rfl ?_);refine cG (some 39) Tryd.func14 #[] ?_;(with_reducible refine(recouplaw18_anchored.calls k true _ dw.out (tBves HT.out HB)).mono ?_);rintro e o7 ⟨rfl,hb⟩;refine⟨_,rfl,?_⟩;replace J:=kdB J hb;replace ah:=kdB ah hb;replace D:=bkB D hb;replace G:=bkB G hb;replace I:=bkB I hb;replace HB:=hbB HB hb;(try clear hb)))
    go_ret
    exact⟨rfE,hbA HB.out⟩
   ·rw[if_neg bg]at H
    have c117b0:(a3==0)=false:=beq_eq_false_iff_ne.mpr bg;have c117b1:(a3 !=0)=true:=bne_iff_ne.mpr bg;obtain rfl:=Option.some.inj H
    go_enter Tryd.func7,Tryd.ntmps7
    go_wp2_with (first|((with_reducible refine gD 3 rfl ?_);(try(refine gate_guard ze ?_;dsimp only));refine bE 3 #[.int .i64 ae,.int .i64 ab,.slice ar aa.length au] 24 ?_;intro av hg o8 hbox hb;have D:=aK (hbox);have db:=aK ((by rw[hg];exact(below_size zm):w.heap.size≤av));have c8:=aK ((by rw[hg];exact(below_size zm):w.heap.size≤av));replace HB:=aK (below_step zm hb);clear hb hbox hg;obtain⟨gi,gj,gl,jb,jc,jd⟩:=cell3 D)|((with_reducible refine gC 20 rfl ?_);refine cG (some 24) Tryd.func20 #[.agg #[.int .i64 ae,.int .i64 ab,.slice ar aa.length au],.int .u64 a1] ?_;(with_reducible refine(verdict_Decode.calls k ae ab _ _ aa a1 ag aj Z a9 a3 _ ?side1 ?side2 A4.out (tBves HT.out HB)).mono ?_);(case side1=>exact kcB a5 HB);(case side2=>exact a4.out);rintro e o9 ⟨ei,rfl,U,hb⟩;refine⟨_,rfl,?_⟩;have J:=aK (Kd.R_lower U (below_size (hbA HB.out)));replace D:=bkB D hb;replace HB:=hbB HB hb;(try clear hb);(try clear U))|((with_reducible refine gD 7 rfl ?_);(try(refine gate_guard ze ?_;dsimp only));refine bE 7 #[.int .i64 0,.int .i64 0,.slice none 0 0] 24 ?_;intro a2 hg pa hbox hb;replace J:=kdB J hb;have G:=aK (hbox);have dc:=hbS HB hg;have c9:=hbS HB hg;replace HB:=hbB HB hb;have L:=neL D hg;have al:=neG D hg;replace D:=bkB D hb;clear hb hbox hg;have mc:=al.out;have mr:=L.out;obtain⟨gm,gn,gp,je,jf,jg⟩:=cell3 G;obtain⟨bm,br,fi⟩:=Kd.R_slice J.out;subst fi;obtain⟨gq,gr,gs,jh,ji,jj⟩:=cell3 D)|((with_reducible refine gC 22 rfl ?_);refine cG (some 31) Tryd.func22 #[.agg #[.int .i64 ae,.int .i64 ab,.slice ar aa.length au],.int .u64 a1] ?_;(with_reducible refine(verdict_Rebuild.calls k ae ab _ _ aa a1 ak ao ac ba a7 _ ?side1 ?side2 A5.out (tBves HT.out HB)).mono ?_);(case side1=>exact Kd.C_below a5.out (hbA HB.out));(case side2=>exact a4.out);rintro e pb ⟨ej,rfl,U,hb⟩;refine⟨_,rfl,?_⟩;have ah:=aK (Kd.R_lower (Kd.R_new' U (Kd.R_lt (by(with_reducible repeat(first|apply Kd.R_alloc|apply Kd.R_drewN|apply Kd.R_drew));exact(fRves J.out G.out (.int .i64 ag) (.int .i64 aj) (.slice bm Z.length br))))) (below_size (hbA HB.out)));replace J:=aK (Kd.R_elder' (by(with_reducible repeat(first|apply Kd.R_alloc|apply Kd.R_drewN|apply Kd.R_drew));exact(fRves J.out G.out (.int .i64 ag) (.int .i64 aj) (.slice bm Z.length br))) (Kd.R_base U) hb);replace D:=aK (blk_below (g:=av) (o:= .cells #[.int .i64 ae,.int .i64 ab,.slice ar aa.length au] 24 (0,0)) zz hb);replace G:=aK (blk_below (g:=a2) (o:= .cells #[.int .i64 ag,.int .i64 aj,.slice bm Z.length br] 24 (0,0)) zx hb);replace HB:=hbB HB hb;(try clear hb);(try clear U))|((with_reducible refine gD 10 rfl ?_);(try(refine gate_guard ze ?_;dsimp only));refine bE 10 #[.int .i64 0,.int .i64 0,.slice none 0 0] 24 ?_;intro a6 hg pc hbox hb;replace J:=kdB J hb;replace ah:=kdB ah hb;have I:=aK (hbox);have dd:=hbS HB hg;have da:=hbS HB hg;replace HB:=hbB HB hb;have O:=neL D hg;have am:=neG D hg;replace D:=bkB D hb;have X:=neL G hg;have aq:=neG G hg;replace G:=bkB G hb;clear hb hbox hg;have me:=am.out;have ms:=O.out;have mf:=aq.out;have mt:=X.out;obtain⟨gt,gu,gv,jk,jl,jm⟩:=cell3 I;obtain⟨c5,dj,fj⟩:=Kd.R_slice ah.out;subst fj;obtain⟨gw,gx,gy,jn,jo,jp⟩:=cell3 D)|((with_reducible refine gC 13 rfl ?_);refine cG (some 37) Tryd.func13 #[.agg #[.int .i64 ae,.int .i64 ab,.slice ar aa.length au],.int .u64 a1] ?_;(with_reducible refine(recouplaw18_generator.calls k ae ab _ _ aa a1 false _ ?side1 ?side2 A6.out).mono ?_);(case side1=>exact Kd.C_below a5.out (hbA HB.out));(case side2=>exact a4.out);rintro e pd ⟨rfl,hb⟩;refine⟨_,rfl,?_⟩;replace J:=aK (Kd.R_below (by(with_reducible repeat(first|apply Kd.R_alloc|apply Kd.R_drewN|apply Kd.R_drew));exact(fRves J.out I.out (.int .i64 ak) (.int .i64 ao) (.slice c5 ac.length dj))) hb);replace ah:=aK (Kd.R_below (by(with_reducible repeat(first|apply Kd.R_alloc|apply Kd.R_drewN|apply Kd.R_drew));exact(fRves ah.out I.out (.int .i64 ak) (.int .i64 ao) (.slice c5 ac.length dj))) hb);replace D:=aK (blk_below (g:=av) (o:= .cells #[.int .i64 ae,.int .i64 ab,.slice ar aa.length au] 24 (0,0)) zo hb);replace G:=aK (blk_below (g:=a2) (o:= .cells #[.int .i64 ag,.int .i64 aj,.slice bm Z.length br] 24 (0,0)) zy hb);replace I:=aK (blk_below (g:=a6) (o:= .cells #[.int .i64 ak,.int .i64 ao,.slice c5 ac.length dj] 24 (0,0)) zw hb);replace HB:=hbB HB hb;(try clear hb))|((with_reducible refine gC 14 rfl ?_);refine cG (some 39) Tryd.func14 #[] ?_;(with_reducible refine(recouplaw18_anchored.calls k true _ dw.out (tBves HT.out HB)).mono ?_);rintro e pe ⟨rfl,hb⟩;refine⟨_,rfl,?_⟩;replace J:=kdB J hb;replace ah:=kdB ah hb;replace D:=bkB D hb;replace G:=bkB G hb;replace I:=bkB I hb;replace HB:=hbB HB hb;(try clear hb)))
    go_ret
    exact⟨rfE,hbA HB.out⟩
  ·replace dn:=Bool.eq_false_iff.mpr dn;subst dn;rw[if_neg nofT]at H
   obtain rfl:=Option.some.inj H
   go_enter Tryd.func7,Tryd.ntmps7
   go_wp2_with (first|((with_reducible refine gD 3 rfl ?_);(try(refine gate_guard ze ?_;dsimp only));refine bE 3 #[.int .i64 ae,.int .i64 ab,.slice ar aa.length au] 24 ?_;intro av hg pf hbox hb;have D:=aK (hbox);have db:=aK ((by rw[hg];exact(below_size zm):w.heap.size≤av));have c8:=aK ((by rw[hg];exact(below_size zm):w.heap.size≤av));replace HB:=aK (below_step zm hb);clear hb hbox hg;obtain⟨gz,g0,g1,jq,jr,js⟩:=cell3 D)|((with_reducible refine gC 20 rfl ?_);refine cG (some 24) Tryd.func20 #[.agg #[.int .i64 ae,.int .i64 ab,.slice ar aa.length au],.int .u64 a1] ?_;(with_reducible refine(verdict_Decode.calls k ae ab _ _ aa a1 ag aj Z a9 a3 _ ?side1 ?side2 A4.out (tBves HT.out HB)).mono ?_);(case side1=>exact kcB a5 HB);(case side2=>exact a4.out);rintro e pg ⟨ei,rfl,U,hb⟩;refine⟨_,rfl,?_⟩;have J:=aK (Kd.R_lower U (below_size (hbA HB.out)));replace D:=bkB D hb;replace HB:=hbB HB hb;(try clear hb);(try clear U))|((with_reducible refine gD 7 rfl ?_);(try(refine gate_guard ze ?_;dsimp only));refine bE 7 #[.int .i64 0,.int .i64 0,.slice none 0 0] 24 ?_;intro a2 hg ph hbox hb;replace J:=kdB J hb;have G:=aK (hbox);have dc:=hbS HB hg;have c9:=hbS HB hg;replace HB:=hbB HB hb;have L:=neL D hg;have al:=neG D hg;replace D:=bkB D hb;clear hb hbox hg;have mg:=al.out;have mu:=L.out;obtain⟨g2,g3,g4,jt,ju,jv⟩:=cell3 G;obtain⟨bn,bs,fk⟩:=Kd.R_slice J.out;subst fk;obtain⟨g5,g6,g7,jw,jx,jy⟩:=cell3 D)|((with_reducible refine gC 22 rfl ?_);refine cG (some 31) Tryd.func22 #[.agg #[.int .i64 ae,.int .i64 ab,.slice ar aa.length au],.int .u64 a1] ?_;(with_reducible refine(verdict_Rebuild.calls k ae ab _ _ aa a1 ak ao ac ba a7 _ ?side1 ?side2 A5.out (tBves HT.out HB)).mono ?_);(case side1=>exact Kd.C_below a5.out (hbA HB.out));(case side2=>exact a4.out);rintro e pi ⟨ej,rfl,U,hb⟩;refine⟨_,rfl,?_⟩;have ah:=aK (Kd.R_lower (Kd.R_new' U (Kd.R_lt (by(with_reducible repeat(first|apply Kd.R_alloc|apply Kd.R_drewN|apply Kd.R_drew));exact(fRves J.out G.out (.int .i64 ag) (.int .i64 aj) (.slice bn Z.length bs))))) (below_size (hbA HB.out)));replace J:=aK (Kd.R_elder' (by(with_reducible repeat(first|apply Kd.R_alloc|apply Kd.R_drewN|apply Kd.R_drew));exact(fRves J.out G.out (.int .i64 ag) (.int .i64 aj) (.slice bn Z.length bs))) (Kd.R_base U) hb);replace D:=aK (blk_below (g:=av) (o:= .cells #[.int .i64 ae,.int .i64 ab,.slice ar aa.length au] 24 (0,0)) zz hb);replace G:=aK (blk_below (g:=a2) (o:= .cells #[.int .i64 ag,.int .i64 aj,.slice bn Z.length bs] 24 (0,0)) zx hb);replace HB:=hbB HB hb;(try clear hb);(try clear U))|((with_reducible refine gD 10 rfl ?_);(try(refine gate_guard ze ?_;dsimp only));refine bE 10 #[.int .i64 0,.int .i64 0,.slice none 0 0] 24 ?_;intro a6 hg pj hbox hb;replace J:=kdB J hb;replace ah:=kdB ah hb;have I:=aK (hbox);have dd:=hbS HB hg;have da:=hbS HB hg;replace HB:=hbB HB hb;have O:=neL D hg;have am:=neG D hg;replace D:=bkB D hb;have X:=neL G hg;have aq:=neG G hg;replace G:=bkB G hb;clear hb hbox hg;have mh:=am.out;have mv:=O.out;have mi:=aq.out;have mw:=X.out;obtain⟨g8,g9,ia,jz,j1,j2⟩:=cell3 I;obtain⟨c6,dk,fl⟩:=Kd.R_slice ah.out;subst fl;obtain⟨ib,ic,ie,j3,j4,j5⟩:=cell3 D)|((with_reducible refine gC 13 rfl ?_);refine cG (some 37) Tryd.func13 #[.agg #[.int .i64 ae,.int .i64 ab,.slice ar aa.length au],.int .u64 a1] ?_;(with_reducible refine(recouplaw18_generator.calls k ae ab _ _ aa a1 false _ ?side1 ?side2 A6.out).mono ?_);(case side1=>exact Kd.C_below a5.out (hbA HB.out));(case side2=>exact a4.out);rintro e pk ⟨rfl,hb⟩;refine⟨_,rfl,?_⟩;replace J:=aK (Kd.R_below (by(with_reducible repeat(first|apply Kd.R_alloc|apply Kd.R_drewN|apply Kd.R_drew));exact(fRves J.out I.out (.int .i64 ak) (.int .i64 ao) (.slice c6 ac.length dk))) hb);replace ah:=aK (Kd.R_below (by(with_reducible repeat(first|apply Kd.R_alloc|apply Kd.R_drewN|apply Kd.R_drew));exact(fRves ah.out I.out (.int .i64 ak) (.int .i64 ao) (.slice c6 ac.length dk))) hb);replace D:=aK (blk_below (g:=av) (o:= .cells #[.int .i64 ae,.int .i64 ab,.slice ar aa.length au] 24 (0,0)) zo hb);replace G:=aK (blk_below (g:=a2) (o:= .cells #[.int .i64 ag,.int .i64 aj,.slice bn Z.length bs] 24 (0,0)) zy hb);replace I:=aK (blk_below (g:=a6) (o:= .cells #[.int .i64 ak,.int .i64 ao,.slice c6 ac.length dk] 24 (0,0)) zw hb);replace HB:=hbB HB hb;(try clear hb))|((with_reducible refine gC 14 rfl ?_);refine cG (some 39) Tryd.func14 #[] ?_;(with_reducible refine(recouplaw18_anchored.calls k false _ dw.out (tBves HT.out HB)).mono ?_);rintro e pl ⟨rfl,hb⟩;refine⟨_,rfl,?_⟩;replace J:=kdB J hb;replace ah:=kdB ah hb;replace D:=bkB D hb;replace G:=bkB G hb;replace I:=bkB I hb;replace HB:=hbB HB hb;(try clear hb)))
   go_ret
   exact⟨rfE,hbA HB.out⟩
end Go.Proofs.YtkagobkedifhkaaDoor.Q
