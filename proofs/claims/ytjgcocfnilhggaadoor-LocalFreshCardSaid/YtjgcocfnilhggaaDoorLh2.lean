/- Texts of the proof of LocalFresh: what each Go function answers, and what the answers mean; no condition beyond each theorem's own. -/
import Derived.Shelf.Abstract
import Derived.Test.YtjgcocfnilhggaaDoorLh1
set_option maxHeartbeats 16000000
set_option maxRecDepth 100000
set_option linter.unusedVariables false
set_option linter.unusedSimpArgs false
namespace Go.Proofs.YtjgcocfnilhggaaDoor.Q
open RowKit YtjgcocfnilhggaaDoorW.PrintWords YtjgcocfnilhggaaDoorW.PrintLast YtjgcocfnilhggaaDoorW.PrintMore
open Kd (C_of_reads R_own R_slice R_reads' R_below R_mono R_bound R_alloc R_nil C_below R_far R_lower V_slice V_mono V_far R_types R_drewN R_drew R_lt R_new' R_elder' R_base R_ne)
attribute [local go_sem] max2_int min2_int max_two min_two max_three min_three max_four min_four
def Byt(w:World)(A:Option Addr):Prop:= ∀ad,A=some ad-> ∃cells:Array Value,w.heap[ad.block]? =some (.cells cells 5 (0,0))
def KeepB(w w1:World):Prop:= ∀(b:Nat) (cells:Array Value),w.heap[b]? =some (.cells cells 5 (0,0))->w1.heap[b]? =w.heap[b]?
theorem lt_of_get{w:World}{b:Nat}{o:Obj}(h:w.heap[b]? =some o):b<w.heap.size:=by
 rcases Nat.lt_or_ge b w.heap.size with hb|hb
 ·exact hb
 ·rw[Array.getElem?_eq_none hb]at h
  cases h
theorem KeepB.below{w w1:World}(h:Below w.heap.size w w1):KeepB w w1:=fun b _ hb=>h.block b (lt_of_get hb)
theorem KeepB.grown{w w1:World}{p t:Nat}{cells:Array Value}(h:w.grownBy w1 (some p))(hp:w.heap[p]? =some (.cells cells t (0,0)))(ht:t≠5):KeepB w w1:=fun b c hb=>h.block b (lt_of_get hb) (by
 intro e;injection e with e;subst e;rw[hp]at hb
 injection hb with hb;injection hb with _ hb;exact ht hb)
theorem C_keepB{w w1:World}{A:Option Addr}{n:Nat}{l:List Int}(h:Kd.C (Kd.int .u8) w A n l)(hA:Byt w A)(k:KeepB w w1):Kd.C (Kd.int .u8) w1 A n l:=by
 have h1:=Kd.reads_of_C (enc:=Value.int .u8) (d:=(0:Int)) (h1:=fun _=>rfl) h;refine C_of_reads (d:=(0:Int)) ⟨h1.1,h1.2.1,fun hn=>?_⟩;obtain⟨ad,ha,hr⟩:=h1.2.2 hn;obtain⟨cells,hb⟩:=hA ad ha;refine⟨ad,ha,fun j hj=>?_⟩;have:=hr j hj;unfold World.cell? at this⊢;have hbl:(ad.add j).block=ad.block:=by unfold Addr.add;split<;>rfl
 rw[hbl]at this⊢
 rw[k _ _ hb];exact this
structure RowV (w:World) (v:Value) (l:List Int):Prop where
 out: ∃A c,v= .slice A l.length c/\l.length<=c/\Kd.C (Kd.int .u8) w A l.length l/\Byt w A
theorem Byt.keep{w w1:World}{A:Option Addr}(h:Byt w A)(k:KeepB w w1):Byt w1 A:=fun ad ha=>(h ad ha).imp fun cells hb=>(k _ _ hb).trans hb
theorem RowV.keep{w w1:World}{v:Value}{l:List Int}(h:RowV w v l)(k:KeepB w w1):RowV w1 v l:=by
 obtain⟨A,c,h1,h2,h3,h4⟩:=h.out;exact⟨A,c,h1,h2,C_keepB h3 h4 k,h4.keep k⟩
theorem RowV.nil(w:World):RowV w (.slice none 0 0) []:=⟨none,0,rfl,Nat.le_refl _,Kd.C_nil _ _,fun ad h=>by cases h⟩
theorem byt_of_R{w:World}{base:Nat}{ok:Nat->Prop}{A:Option Addr}{n c:Nat}{l:List Int}(h:Kd.R (Kd.int .u8) 5 w base ok (.slice A n c) l):Byt w A:=by
 obtain⟨inner,ho⟩:=R_own h;intro ad ha;rcases ho.2 with⟨h',_⟩|⟨g',cap',cur,h',_,hh,_⟩
 ·injection h' with h';rw[h']at ha
  cases ha
 ·injection h' with h';rw[h']at ha
  cases ha
  exact⟨_,hh⟩
theorem RowV.of_R{w:World}{base:Nat}{ok:Nat->Prop}{v:Value}{l:List Int}(h:Kd.R (Kd.int .u8) 5 w base ok v l):RowV w v l:=by
 obtain⟨A,c,rfl⟩:=R_slice h;exact⟨A,c,rfl,(R_reads' h).2.1,(R_reads' h).2.2,byt_of_R h⟩
structure Lst (w:World) (g:Nat) (M:List (List Int)):Prop where
 typ:0<M.length-> ∃cells:Array Value,w.heap[g]? =some (.cells cells 22 (0,0))
 row: ∀i,i<M.length-> ∃v,w.cell? ⟨g,i,none⟩=some v/\RowV w v (M.getD i [])
 frz: ∀i,i<M.length->w.frozen? ⟨g,i,none⟩=false
structure Chg (w w1:World) (s:Nat->Prop):Prop where
 os:w1.os=w.os
 tape:w1.tape=w.tape
 output:w1.output=w.output
 size:w.heap.size<=w1.heap.size
 block: ∀i,i<w.heap.size-> ¬s i->w1.heap[i]? =w.heap[i]?
theorem Chg.refl(w:World)(s:Nat->Prop):Chg w w s:=⟨rfl,rfl,rfl,Nat.le_refl _,fun _ _ _=>rfl⟩
theorem Chg.trans{u v w:World}{s:Nat->Prop}(h:Chg u v s)(k:Chg v w s):Chg u w s:=
 ⟨k.os.trans h.os,k.tape.trans h.tape,k.output.trans h.output,Nat.le_trans h.size k.size,fun i hi hs=>(k.block i (Nat.lt_of_lt_of_le hi h.size) hs).trans (h.block i hi hs)⟩
theorem Chg.mono{w w1:World}{s t:Nat->Prop}(h:Chg w w1 s)(k: ∀i,i<w.heap.size->s i->t i):Chg w w1 t:=
 ⟨h.os,h.tape,h.output,h.size,fun i hi ht=>h.block i hi fun hs=>ht (k i hi hs)⟩
theorem Chg.grown{w w1:World}{g:Nat}(h:w.grownBy w1 (some g)):Chg w w1 (fun i=>i=g):=
 ⟨h.os,h.tape,h.output,h.size,fun i hi hs=>h.block i hi (fun e=>hs (Option.some.inj e))⟩
theorem Chg.below_all{w w1:World}(h:Below w.heap.size w w1)(s:Nat->Prop):Chg w w1 s:=
 ⟨h.os,h.tape,h.output,h.size,fun i hi _=>h.block i hi⟩
theorem Chg.to_below{w w1:World}{s:Nat->Prop}{n:Nat}(h:Chg w w1 s)(hn:n<=w.heap.size)(k: ∀i,s i->n<=i):Below n w w1:=
 ⟨h.os,h.tape,h.output,h.size,fun i hi=>h.block i za fun hs=>by have:=k i hs;omega⟩
theorem cell_same{w w1:World}{p:Addr}(h:w1.heap[p.block]? =w.heap[p.block]?):w1.cell? p=w.cell? p:=by unfold World.cell?;rw[h]
theorem frozen_same{w w1:World}{p:Addr}(h:w1.heap[p.block]? =w.heap[p.block]?):w1.frozen? p=w.frozen? p:=by unfold World.frozen?;rw[h]
theorem Lst.same{w w1:World}{g:Nat}{M:List (List Int)}(h:Lst w g M)(hg:w1.heap[g]? =w.heap[g]?)(k:KeepB w w1):Lst w1 g M:=
 ⟨fun h0=>(h.typ h0).imp fun _ hc=>hg.trans hc,fun i hi=>(h.row i hi).imp fun v hv=>⟨(cell_same (p:=⟨g,i,none⟩) hg).trans hv.1,hv.2.keep k⟩,fun i hi=>(frozen_same (p:=⟨g,i,none⟩) hg).trans (h.frz i hi)⟩
theorem Lst.lt{w:World}{g:Nat}{M:List (List Int)}(h:Lst w g M)(h0:0<M.length):g<w.heap.size:=(h.typ h0).elim fun _ hc=>lt_of_get hc
theorem Lst.below{w w1:World}{g:Nat}{M:List (List Int)}(h:Lst w g M)(hb:Below w.heap.size w w1):Lst w1 g M:=by
 rcases Nat.eq_zero_or_pos M.length with h0|h0
 ·exact⟨fun h=>by omega,fun i hi=>by omega,fun i hi=>by omega⟩
 ·exact h.same (hb.block g (h.lt h0)) (KeepB.below hb)
theorem Lst.put{w:World}{g:Nat}{M:List (List Int)}(h:Lst w g M){i:Nat}(hi:i<M.length){v:Value}{l:List Int}(hv:RowV w v l):Lst (w.setCell ⟨g,i,none⟩ v) g (M.set i l):=by
 obtain⟨cells,hc⟩:=h.typ za;have kb:KeepB w (w.setCell ⟨g,i,none⟩ v):=fun b c hb=>Below.heap_setCell _ _ _ b (by
  rintro rfl;rw[hc]at hb
  injection hb with hb;injection hb with _ hb;exact absurd hb zb)
 refine⟨fun _=>?_,fun j hj=>?_,fun j hj=>?_⟩
 ·exact⟨_,blk_put hc i v rfl⟩
 ·rw[List.length_set]at hj
  by_cases e:i=j
  case neg=>obtain⟨v0,h1,h2⟩:=h.row j hj;refine⟨v0,(World.cell?_setCell_other _ _ _ _ (by simp[e])).trans h1,?_⟩;rw[List.getD_eq_getElem?_getD,List.getElem?_set_ne e,<-List.getD_eq_getElem?_getD];exact h2.keep kb
  subst e;obtain⟨v0,h1,_⟩:=h.row i hi;refine⟨v,World.cell?_setCell_same' _ _ _ (by rw[h1];rfl),?_⟩;rw[List.getD_eq_getElem?_getD,List.getElem?_set_self hi];exact hv.keep kb
 ·rw[World.frozen?_setCell];exact h.frz j (by simpa using hj)
theorem grown_trans{u v w:World}{r:Option Nat}(h:u.grownBy v r)(k:v.grownBy w r):u.grownBy w r:=
 ⟨k.os.trans h.os,k.tape.trans h.tape,k.output.trans h.output,Nat.le_trans h.size k.size,fun i hi hr=>(k.block i (Nat.lt_of_lt_of_le hi h.size) hr).trans (h.block i hi hr)⟩
theorem grown_below{u v:World}{r:Option Nat}(h:Below u.heap.size u v):u.grownBy v r:=⟨h.os,h.tape,h.output,h.size,fun k hk _=>h.block k hk⟩
theorem grown_set(w:World)(g j:Nat)(v:Value):w.grownBy (w.setCell ⟨g,j,none⟩ v) (some g):=
 ⟨rfl,rfl,rfl,by simp,fun k _ hk=>Below.heap_setCell _ _ _ k (fun e=>hk (by rw[e]))⟩
theorem grown_drew{w W:World}{r:Option Nat}(h:w.grownBy W r):w.grownBy W.drew r:=⟨h.os,h.tape,h.output,h.size,h.block⟩
theorem below_frozen{W w2:World}(hb:Below W.heap.size W w2){p:Addr}(h:p.block<W.heap.size):w2.frozen? p=W.frozen? p:=frozen_same (hb.block _ h)
theorem Lst.drew{w:World}{g:Nat}{M:List (List Int)}(h:Lst w g M):Lst w.drew g M:=h.below (below_drew (Below.refl _ _))
def swapS(o:Int)(M:List (List Int))(top i:Nat):List (List Int):=((M.set i (M.getD top [])).set top (M.getD i [])).set top ((M.getD i []).map (mulT o))
def xorL(a b:List Int):List Int:=List.zipWith (Go.bits .xor .u8) a b
def macS(M:List (List Int))(k top:Nat)(c:Int):List (List Int):=M.set k (xorL ((M.getD top []).map (mulT c)) (M.getD k []))
def entry(M:List (List Int))(i j:Nat):Int:=(M.getD i []).getD j 0
def rowsB(M:List (List Int)):Bool:=M.all bytesB
theorem rowsB_at{M:List (List Int)}(h:rowsB M=true)(i:Nat):bytesB (M.getD i [])=true:=by
 rw[List.getD_eq_getElem?_getD];rcases Nat.lt_or_ge i M.length with hi|hi
 ·rw[List.getElem?_eq_getElem hi];exact List.all_eq_true.1 h _ (List.getElem_mem hi)
 ·rw[List.getElem?_eq_none hi];rfl
theorem rowsB_set{M:List (List Int)}(h:rowsB M=true){i:Nat}{l:List Int}(hl:bytesB l=true):rowsB (M.set i l)=true:=by
 rw[rowsB,List.all_eq_true];intro x hx;rcases List.mem_or_eq_of_mem_set hx with hx|rfl
 ·exact List.all_eq_true.1 h x hx
 ·exact hl
theorem bytes_scale{o:Int}{l:List Int}(ho:0<=o/\o<256)(hl:bytesB l=true)(hn:l.length<=1000000):field_Scale.f o l=some (l.map (mulT o)):=by
 unfold field_Scale.f;rw[if_pos ⟨ho.1,ho.2,hl,by omega⟩]
theorem lst_swap{w:World}{g top i:Nat}{M:List (List Int)}(h:Lst w g M)(ht:top<M.length)(hi:i<M.length){v1 v2:Value}(h1:w.cell? ⟨g,top,none⟩=some v1)(h2:w.cell? ⟨g,i,none⟩=some v2):
 Lst ((w.setCell ⟨g,i,none⟩ v1).setCell ⟨g,top,none⟩ v2).drew g ((M.set i (M.getD top [])).set top (M.getD i [])):=by
 obtain⟨u1,e1,r1⟩:=h.row top ht;obtain⟨u2,e2,r2⟩:=h.row i hi;rw[h1]at e1
 rw[h2]at e2
 cases e1
 cases e2
 have a:=h.put hi r1;obtain⟨cells,hc⟩:=h.typ za;have kb:KeepB w (w.setCell ⟨g,i,none⟩ v1):=KeepB.grown (grown_set w g i v1) hc zb;exact(a.put (i:=top) zx (r2.keep kb)).drew
theorem gauss_swap.calls(g n cap bt bi bo:Nat)(top i:Nat)(c:Int)(M:List (List Int))(w:World)(hL:Lst w g M)(hB:rowsB M=true)(ht:w.cell? ⟨bt,0,none⟩=some (.int .i64 top))(hi:w.cell? ⟨bi,0,none⟩=some (.int .i64 i))(ho:w.cell? ⟨bo,0,none⟩=some (.int .u8 c))
 (hbt:bt≠g) (hbi:bi≠g) (hbo:bo≠g) (htn:top<M.length) (hin:i<M.length) (hn:M.length=n) (O:n<=1000000) (hw: ∀j,j<M.length->(M.getD j []).length<=1000000) (hc:0<=c/\c<256):
 Calls Tryd.prog 109 #[.slice (some ⟨g,0,none⟩) n cap,.pointer (some ⟨bt,0,none⟩),.pointer (some ⟨bi,0,none⟩),.pointer (some ⟨bo,0,none⟩)] w fun e w'=>(∃v,e= .returned v)/\Aside0 (Lst w' g (swapS c M top i)/\w.grownBy w' (some g)):=by
 subst hn;have q1:(g=bt)=False:=by simp;exact fun e=>hbt e.symm
 have q2:(bt=g)=False:=by simp;exact hbt
 have q3:(g=bi)=False:=by simp;exact fun e=>hbi e.symm
 have q4:(bi=g)=False:=by simp;exact hbi
 have q5:(g=bo)=False:=by simp;exact fun e=>hbo e.symm
 have q6:(bo=g)=False:=by simp;exact hbo
 obtain⟨v1,h1,r1⟩:=hL.row top htn;obtain⟨v2,h2,r2⟩:=hL.row i hin;have f1:=hL.frz top htn;have f2:=hL.frz i hin;have HS:=aK (⟨lst_swap hL htn hin h1 h2,grown_drew (grown_trans (grown_set w g i v1) (grown_set _ g top v2))⟩:Lst ((w.setCell ⟨g,i,none⟩ v1).setCell ⟨g,top,none⟩ v2).drew g ((M.set i (M.getD top [])).set top (M.getD i []))/\w.grownBy ((w.setCell ⟨g,i,none⟩ v1).setCell ⟨g,top,none⟩ v2).drew (some g));have HSC:=aK (bytes_scale hc (rowsB_at hB i) (hw i hin));have HE:=aK (show swapS c M top i=((M.set i (M.getD top [])).set top (M.getD i [])).set top ((M.getD i []).map (mulT c))from rfl);have HT:=aK ht;have HO:=aK ho;have HL:=aK hL;obtain⟨D,J,rfl,_,_,_⟩:=r1.out;obtain⟨G,L,rfl,_,_,_⟩:=r2.out;clear r1 r2 hB hL hw;generalize(M.getD i []).map (mulT c)=r at*;generalize et:M.getD top [] =lt at*;generalize ei:M.getD i [] =li at*;have ET:=aK et;have EI:=aK ei;clear et ei
 go_enter Tryd.func109,Tryd.ntmps109
 go_wp2
 go_cut [5] (fun _ W1=>Aside0 (Lst W1 g ((M.set i lt).set top li)/\w.grownBy W1 (some g)))
 case first=>
  by_cases hti:i=top
  case neg=>
   have hgi:(i=top)=False:=by simp;exact hti
   have hgt:(top=i)=False:=by simp;exact fun e=>hti e.symm
   go_region
   go_wp2_with fail
   go_meet
   exact⟨HS.out⟩
  subst hti;obtain rfl:lt=li:=ET.out.symm.trans EI.out;obtain⟨e1,e3⟩:D=G/\J=L:=by
   have:=Option.some.inj (h1.symm.trans h2);injection this with a b c;exact⟨a,c⟩
  subst e1 e3
  go_region
  go_wp2_with fail
  go_meet
  exact⟨HS.out⟩
 case rest=>
  obtain⟨hs,hgr⟩:=hcut.out;have hlt:=HL.out.lt za;have a1:wc.cell? ⟨bt,0,none⟩=some (.int .i64 top):=(cell_same (hgr.block bt (World.block_lt_of_cell? _ _ HT.out) (by simpa using hbt))).trans HT.out;have a3:wc.cell? ⟨bo,0,none⟩=some (.int .u8 c):=(cell_same (hgr.block bo (World.block_lt_of_cell? _ _ HO.out) (by simpa using hbo))).trans HO.out;have hts:top<((M.set i lt).set top li).length:=by simpa using htn
  obtain⟨v,a4,hv⟩:=hs.row top hts;have a5:=hs.frz top hts;have hgt:(((M.set i lt).set top li).getD top [])=li:=by
   rw[List.getD_eq_getElem?_getD,List.getElem?_set_self (by simpa using htn)];rfl
  rw[hgt]at hv
  obtain⟨Ai,ci,rfl,hci,hCi,_⟩:=hv.out;have HCI:=aK hCi;have HLS:=aK hs;have HGR:=aK hgr;have hgl:=World.block_lt_of_cell? _ _ a4;clear hs hgr hv hCi h1 h2 f1 f2 ho ht hi hgt hts
  go_wp2_with fail
  refine start_ (n:=10) (S:=fun w'=>w'.cell? ⟨bt,0,none⟩=some (.int .i64 top)/\w'.cell? ⟨bo,0,none⟩=some (.int .u8 c)/\w'.cell? ⟨g,top,none⟩=some (.slice Ai li.length ci)) (ds:= [9]) (mB 10 0) zc rfl rfl ⟨a1,a3,a4⟩ (fun hHeld=>?_);refine zpu 0 (some 19) (mB 10 1) ?_;refine zpu 3 (some 22) (mB 10 9) ?_;refine ztk3 1 (some 20) (mB 10 11) hHeld ?_;refine ztk3 2 (some 21) (mB 10 15) hHeld ?_;refine ztk3 4 (some 23) (mB 10 31) hHeld ?_;refine zpu 5 (some 24) (mB 10 63) ?_;refine ztk3 6 (some 25) (mB 10 127) hHeld ?_;refine zon 7 (some 26) (mB 10 255) fun K hK=>?_;refine goes_ Tryd.func110 zc rfl #[.int .u8 c,.slice Ai li.length ci] ze rfl rfl zn ?_;refine(field_Scale.calls c Ai ci li _ wc.drew HCI.out hci HSC.out).mono ?_;rintro e w2 ⟨v0,rfl,ho,hb⟩;refine⟨_,rfl,?_⟩;obtain⟨A0,c0,eo⟩:=R_slice ho;subst eo;have b2:=pw_cell_below hb (show wc.drew.cell? _=_ from a4);have b3:w2.frozen? ⟨g,top,none⟩=false:=((below_frozen (W:=wc.drew) hb hgl).trans a5)
  have I:=aK ho;clear ho;refine hK.out _ _ ⟨pw_cell_below hb a1,pw_cell_below hb a3,b2⟩ (fun hHeld=>?_);clear hK K;refine znm (some 26) ?_;refine zpu 8 (some 27) (mB 10 511) ?_;refine zln 9 (none) (mB 10 1023) fun K hK=>?_;refine zsk ?_;refine hK.out _ _ ?_;clear hK K;refine done_ zc ?_
  go_end0
  have L2:=(HLS.out.drew).below hb;rw[HE.out];exact⟨⟨_,rfl⟩,⟨L2.put (i:=top) (by simpa using htn) (RowV.of_R I.out),grown_trans (grown_trans HGR.out (grown_below ((below_drew (Below.refl wc.heap.size wc)).trans hb))) (grown_set _ g top _)⟩⟩
theorem mac_l0: ∀(d i:Nat) (out l:List Int) (k:Nat),l.length=i+d->out.length=l.length->l.length<=1000000->d<k->field_Mac.l0 k out l (l.length:Int) (i:Int)=some (out.take i++xorL (out.drop i) (l.drop i),0)
 |0,i,out,l,k,h1,h2,h3,hk=>by
  obtain⟨k,rfl⟩: ∃m,k=m+1:=⟨k-1,by omega⟩
  unfold field_Mac.l0;rw[if_neg za];rw[List.drop_eq_nil_of_le (by omega:l.length<=i),List.take_of_length_le za];simp[xorL]
 |d+1,i,out,l,k,h1,h2,h3,hk=>by
  obtain⟨k,rfl⟩: ∃m,k=m+1:=⟨k-1,by omega⟩
  unfold field_Mac.l0;rw[if_pos za,if_pos za,if_pos za,if_pos za,show wrap64 ((i:Int)+1)=((i+1:Nat):Int)from by unfold wrap64;omega,Int.toNat_natCast];rw[mac_l0 d (i+1) _ l k za (by simpa using h2) h3 za];have ho:i<out.length:=by omega
  have hl:i<l.length:=by omega
  have e1:rd out (i:Int)=out[i]:=by simp[rd,List.getD_eq_getElem?_getD,List.getElem?_eq_getElem ho]
  have e2:rd l (i:Int)=l[i]:=by simp[rd,List.getD_eq_getElem?_getD,List.getElem?_eq_getElem hl]
  rw[e1,e2]
  congr 1
  congr 1
  rw[List.take_set,List.drop_set_of_lt za,List.take_succ_eq_append_getElem ho,List.set_append_right _ _ zk];have:i-(out.take i).length=0:=by simp;omega
  rw[this,List.set_cons_zero,List.append_assoc];have e3:out.drop i=out[i]::out.drop (i+1):=List.drop_eq_getElem_cons ho;have e4:l.drop i=l[i]::l.drop (i+1):=List.drop_eq_getElem_cons hl;rw[e3,e4];rfl
theorem mac_f{o:Int}{lk lt:List Int}(ho:0<=o/\o<256)(hl:bytesB lt=true)(he:lk.length=lt.length)(hn:lt.length<=1000000):field_Mac.f (lk.length+1) lk o lt=some (xorL (lt.map (mulT o)) lk,0):=by
 unfold field_Mac.f;rw[if_pos (by rw[he]),bytes_scale ho hl hn,Option.bind_some];have:=mac_l0 lk.length 0 (lt.map (mulT o)) lk (lk.length+1) za (by simp[he]) za za;simpa using this
theorem gauss_mac.calls(g n cap bk bc bt:Nat)(k top:Nat)(c:Int)(M:List (List Int))(w:World)(hL:Lst w g M)(hB:rowsB M=true)(hk:w.cell? ⟨bk,0,none⟩=some (.int .i64 k))(hc:w.cell? ⟨bc,0,none⟩=some (.int .u8 c))(ht:w.cell? ⟨bt,0,none⟩=some (.int .i64 top))
 (hkn:k<M.length) (htn:top<M.length) (hn:M.length=n) (O:n<=1000000) (hw: ∀j,j<M.length->(M.getD j []).length<=1000000) (he:(M.getD k []).length=(M.getD top []).length) (hcr:0<=c/\c<256):
 Calls Tryd.prog 111 #[.slice (some ⟨g,0,none⟩) n cap,.pointer (some ⟨bk,0,none⟩),.pointer (some ⟨bc,0,none⟩),.pointer (some ⟨bt,0,none⟩)] w fun e w'=>(∃v,e= .returned v)/\Aside0 (Lst w' g (macS M k top c)/\w.grownBy w' (some g)):=by
 subst hn;obtain⟨v1,h1,r1⟩:=hL.row k hkn;obtain⟨v2,h2,r2⟩:=hL.row top htn;have f1:=hL.frz k hkn;obtain⟨Ak,ck,rfl,hck,D,_⟩:=r1.out;obtain⟨At,ct,rfl,hct,G,_⟩:=r2.out;have I:=aK D;have J:=aK G;have HM:=aK (mac_f hcr (rowsB_at hB top) he (hw top htn));have HL:=aK hL;have HE:=aK (show macS M k top c=M.set k (xorL ((M.getD top []).map (mulT c)) (M.getD k []))from rfl);have hgl:=World.block_lt_of_cell? _ _ h1;clear D G r1 r2 hL hB hw he;generalize xorL ((M.getD top []).map (mulT c)) (M.getD k [])=r at*;generalize M.getD k [] =lk at*;generalize M.getD top [] =lt at*
 go_enter Tryd.func111,Tryd.ntmps111
 go_wp2;refine start_ (n:=17) (S:=fun w'=>w'.cell? ⟨bk,0,none⟩=some (.int .i64 k)/\w'.cell? ⟨bc,0,none⟩=some (.int .u8 c)/\w'.cell? ⟨bt,0,none⟩=some (.int .i64 top)/\w'.cell? ⟨g,k,none⟩=some (.slice Ak lk.length ck)/\w'.cell? ⟨g,top,none⟩=some (.slice At lt.length ct)) (ds:= [16]) (mB 17 0) zc rfl rfl ⟨hk,hc,ht,h1,h2⟩ (fun hHeld=>?_);refine zpu 0 (some 6) (mB 17 1) ?_;refine zpu 2 (some 8) (mB 17 5) ?_;refine zpu 7 (some 13) (mB 17 133) ?_;refine ztk5 1 (some 7) (mB 17 135) hHeld ?_;refine ztk5 3 (some 9) (mB 17 143) hHeld ?_;refine zpu 4 (some 10) (mB 17 159) ?_;refine ztk5 5 (some 11) (mB 17 191) hHeld ?_;refine ztk5 6 (some 12) (mB 17 255) hHeld ?_;refine ztk5 8 (some 14) (mB 17 511) hHeld ?_;refine zpu 9 (some 15) (mB 17 1023) ?_;refine ztk5 10 (some 16) (mB 17 2047) hHeld ?_;refine zon 11 (some 17) (mB 17 4095) fun K hK=>?_;refine goes_ Tryd.func100 zc rfl #[.slice Ak lk.length ck,.int .u8 c,.slice At lt.length ct] ze rfl rfl zn ?_;refine(field_Mac.calls _ Ak ck lk c At ct lt _ 0 w.drew I.out hck J.out hct HM.out).mono ?_;rintro e w2 ⟨v0,rfl,ho,hb⟩;refine⟨_,rfl,?_⟩;obtain⟨A0,c0,eo⟩:=R_slice ho;subst eo;have b2:=pw_cell_below hb (show w.drew.cell? _=_ from h1);have b3:w2.frozen? ⟨g,k,none⟩=false:=((below_frozen (W:=w.drew) hb hgl).trans f1)
 have L:=aK ho;clear ho;refine hK.out _ _ ⟨pw_cell_below hb hk,pw_cell_below hb hc,pw_cell_below hb ht,b2,pw_cell_below hb h2⟩ (fun hHeld=>?_);clear hK K;refine znm (some 17) ?_;refine zpu 12 (some 5) (mB 17 8191) ?_;refine zpu 13 (some 18) (mB 17 16383) ?_;refine zpu 14 (some 19) (mB 17 32767) ?_;refine zpu 15 (some 20) (mB 17 65535) ?_;refine zln 16 (none) (mB 17 131071) fun K hK=>?_;refine zsk ?_;refine hK.out _ _ ?_;clear hK K;refine done_ zc ?_
 go_end0
 have L2:=(HL.out.drew).below hb;rw[HE.out];exact⟨⟨_,rfl⟩,⟨L2.put (i:=k) hkn (RowV.of_R L.out),grown_trans (grown_below ((below_drew (Below.refl w.heap.size w)).trans hb)) (grown_set _ g k _)⟩⟩
structure Hold (w:World) (R g d cl cd:Nat) (Al Ad:Option Addr) (M D:List (List Int)) (cols:Nat):Prop where
 head:w.cell? ⟨R,0,none⟩=some (.slice Al M.length cl)
 also:w.cell? ⟨R,1,none⟩=some (.slice Ad D.length cd)
 wide:w.cell? ⟨R,2,none⟩=some (.int .i64 cols)
 hA:0<M.length->Al=some ⟨g,0,none⟩
 hD:0<D.length->Ad=some ⟨d,0,none⟩
 L:Lst w g M
 LD:Lst w d D
 ne1:g≠d
 ne2:R≠g
 ne3:R≠d
structure Shp (M D:List (List Int)) (cols wd:Nat):Prop where
 len:D.length=M.length
 bM:rowsB M=true
 bD:rowsB D=true
 eM: ∀i,i<M.length->(M.getD i []).length=cols
 eD: ∀i,i<M.length->(D.getD i []).length=wd
 small:M.length<=64/\cols<=64/\wd<=64
theorem getD_set{M:List (List Int)}{i j:Nat}{l:List Int} :(M.set i l).getD j [] =if i=j/\i<M.length then l else M.getD j []:=by
 rw[List.getD_eq_getElem?_getD,List.getD_eq_getElem?_getD,List.getElem?_set];by_cases e:i=j
 case neg=>simp[e]
 subst e;by_cases h:i<M.length
 case neg=>simp[h,List.getElem?_eq_none (by omega:M.length<=i)]
 simp[h]
theorem xor_u8(a b:Int):0<=Go.bits .xor .u8 a b/\Go.bits .xor .u8 a b<256:=by
 unfold Go.bits;rw[IntKind.wrap_u8];omega
theorem bytesB_mk{l:List Int}(h: ∀x,x∈l->0<=x/\x<256):bytesB l=true:=by
 unfold bytesB;rw[List.all_eq_true];intro x hx;simpa using h x hx
theorem exp_bytes:bytesB (field_build.st 255).1=true:=by decide+kernel
theorem mulT_range(a b:Int):0<=mulT a b/\mulT a b<256:=by
 unfold mulT
 split
 ·omega
 ·split
  ·omega
  ·unfold field_build.exp;rw[List.getD_eq_getElem?_getD];generalize(field_build.log a.toNat+field_build.log b.toNat).toNat=i;rcases Nat.lt_or_ge i (field_build.st 255).1.length with hi|hi
   ·rw[List.getElem?_eq_getElem hi];have:=List.all_eq_true.1 exp_bytes _ (List.getElem_mem hi);simpa using this
   ·rw[List.getElem?_eq_none hi];simp
theorem bytesB_scale(o:Int)(l:List Int):bytesB (l.map (mulT o))=true:=bytesB_mk fun x hx=>by
 obtain⟨y,_,rfl⟩:=List.mem_map.1 hx;exact mulT_range _ _
theorem bytesB_xor(a b:List Int):bytesB (xorL a b)=true:=bytesB_mk fun x hx=>by
 unfold xorL at hx;obtain⟨i,hi,rfl⟩:=List.mem_iff_getElem.1 hx;rw[List.getElem_zipWith];exact xor_u8 _ _
theorem length_xor{a b:List Int}(h:a.length=b.length):(xorL a b).length=b.length:=by
 unfold xorL;rw[List.length_zipWith];omega
theorem shp_swap1{M:List (List Int)}{top i n:Nat}{o:Int}(hB:rowsB M=true)(e: ∀i,i<M.length->(M.getD i []).length=n)(ht:top<M.length)(hi:i<M.length):
 (swapS o M top i).length=M.length/\rowsB (swapS o M top i)=true/\ ∀j,j<M.length->((swapS o M top i).getD j []).length=n:=by
 refine⟨by simp[swapS],?_,fun j hj=>?_⟩
 ·exact rowsB_set (rowsB_set (rowsB_set hB (rowsB_at hB top)) (rowsB_at hB i)) (bytesB_scale _ _)
 ·unfold swapS;rw[getD_set]
  split
  ·rw[List.length_map,e i hi]
  ·rw[getD_set]
   split
   ·exact e i hi
   ·rw[getD_set]
    split
    ·exact e top ht
    ·exact e j hj
theorem Shp.swap{M D:List (List Int)}{cols wd top i:Nat}{o:Int}(h:Shp M D cols wd)(ht:top<M.length)(hi:i<M.length):Shp (swapS o M top i) (swapS o D top i) cols wd:=by
 obtain⟨a1,a2,a3⟩:=shp_swap1 (o:=o) h.bM h.eM ht hi;obtain⟨b1,b2,b3⟩:=shp_swap1 (o:=o) h.bD (fun j hj=>h.eD j (by rw[<-h.len];exact hj)) (by rw[h.len];exact ht) (by rw[h.len];exact hi);exact⟨by rw[a1,b1,h.len],a2,b2,fun j hj=>a3 j (by rwa [a1]at hj),fun j hj=>b3 j (by rw[h.len];rwa [a1]at hj),by rw[a1];exact h.small⟩
theorem shp_mac1{M:List (List Int)}{k top n:Nat}{c:Int}(hB:rowsB M=true)(e: ∀i,i<M.length->(M.getD i []).length=n)(hk:k<M.length)(ht:top<M.length):
 (macS M k top c).length=M.length/\rowsB (macS M k top c)=true/\ ∀j,j<M.length->((macS M k top c).getD j []).length=n:=by
 refine⟨by simp[macS],rowsB_set hB (bytesB_xor _ _),fun j hj=>?_⟩;unfold macS;rw[getD_set]
 split
 ·rw[length_xor (by rw[List.length_map,e top ht,e k hk]),e k hk]
 ·exact e j hj
theorem Shp.mac{M D:List (List Int)}{cols wd k top:Nat}{c:Int}(h:Shp M D cols wd)(hk:k<M.length)(ht:top<M.length):Shp (macS M k top c) (macS D k top c) cols wd:=by
 obtain⟨a1,a2,a3⟩:=shp_mac1 (c:=c) h.bM h.eM hk ht;obtain⟨b1,b2,b3⟩:=shp_mac1 (c:=c) h.bD (fun j hj=>h.eD j (by rw[<-h.len];exact hj)) (by rw[h.len];exact hk) (by rw[h.len];exact ht);exact⟨by rw[a1,b1,h.len],a2,b2,fun j hj=>a3 j (by rwa [a1]at hj),fun j hj=>b3 j (by rw[h.len];rwa [a1]at hj),by rw[a1];exact h.small⟩
theorem Hold.small{w:World}{R g d cl cd:Nat}{Al Ad:Option Addr}{M D:List (List Int)}{cols:Nat}(h:Hold w R g d cl cd Al Ad M D cols):R<w.heap.size:=World.block_lt_of_cell? _ _ h.head
theorem Hold.below{w w1:World}{R g d cl cd:Nat}{Al Ad:Option Addr}{M D:List (List Int)}{cols:Nat}(h:Hold w R g d cl cd Al Ad M D cols)(hb:Below w.heap.size w w1):Hold w1 R g d cl cd Al Ad M D cols:=
 ⟨(hb.cell (p:=⟨R,0,none⟩) h.small).trans h.head,(hb.cell (p:=⟨R,1,none⟩) h.small).trans h.also,(hb.cell (p:=⟨R,2,none⟩) h.small).trans h.wide,h.hA,h.hD,h.L.below hb,h.LD.below hb,h.ne1,h.ne2,h.ne3⟩
theorem Hold.chg{w w1:World}{R g d cl cd:Nat}{Al Ad:Option Addr}{M D:List (List Int)}{cols:Nat}{s:Nat->Prop}(h:Hold w R g d cl cd Al Ad M D cols)(hc:Chg w w1 s)(k:KeepB w w1)(h1: ¬s R)(h2:0<M.length-> ¬s g)(h3:0<D.length-> ¬s d):Hold w1 R g d cl cd Al Ad M D cols:=by
 have hR:=hc.block R h.small h1;refine⟨(cell_same (p:=⟨R,0,none⟩) hR).trans h.head,(cell_same (p:=⟨R,1,none⟩) hR).trans h.also,(cell_same (p:=⟨R,2,none⟩) hR).trans h.wide,h.hA,h.hD,?_,?_,h.ne1,h.ne2,h.ne3⟩
 ·rcases Nat.eq_zero_or_pos M.length with h0|h0
  ·exact⟨fun h=>by omega,fun i hi=>by omega,fun i hi=>by omega⟩
  ·exact h.L.same (hc.block g (h.L.lt h0) (h2 h0)) k
 ·rcases Nat.eq_zero_or_pos D.length with h0|h0
  ·exact⟨fun h=>by omega,fun i hi=>by omega,fun i hi=>by omega⟩
  ·exact h.LD.same (hc.block d (h.LD.lt h0) (h3 h0)) k
theorem Hold.left{w w1:World}{R g d cl cd:Nat}{Al Ad:Option Addr}{M D M':List (List Int)}{cols:Nat}(h:Hold w R g d cl cd Al Ad M D cols)(hg:w.grownBy w1 (some g))(hL:Lst w1 g M')(hl:M'.length=M.length)(h0:0<M.length):Hold w1 R g d cl cd Al Ad M' D cols:=by
 obtain⟨cells,hc⟩:=h.L.typ h0;have hR:=hg.block R h.small (by simpa using h.ne2);refine⟨by rw[hl];exact(cell_same (p:=⟨R,0,none⟩) hR).trans h.head,(cell_same (p:=⟨R,1,none⟩) hR).trans h.also,(cell_same (p:=⟨R,2,none⟩) hR).trans h.wide,by rw[hl];exact h.hA,h.hD,hL,?_,h.ne1,h.ne2,h.ne3⟩;rcases Nat.eq_zero_or_pos D.length with h1|h1
 ·exact⟨fun h=>by omega,fun i hi=>by omega,fun i hi=>by omega⟩
 ·exact h.LD.same (hg.block d (h.LD.lt h1) (by simpa using fun e=>h.ne1 e.symm)) (KeepB.grown hg hc zb)
theorem Hold.right{w w1:World}{R g d cl cd:Nat}{Al Ad:Option Addr}{M D D':List (List Int)}{cols:Nat}(h:Hold w R g d cl cd Al Ad M D cols)(hg:w.grownBy w1 (some d))(hL:Lst w1 d D')(hl:D'.length=D.length)(h0:0<D.length):Hold w1 R g d cl cd Al Ad M D' cols:=by
 obtain⟨cells,hc⟩:=h.LD.typ h0;have hR:=hg.block R h.small (by simpa using h.ne3);refine⟨(cell_same (p:=⟨R,0,none⟩) hR).trans h.head,by rw[hl];exact(cell_same (p:=⟨R,1,none⟩) hR).trans h.also,(cell_same (p:=⟨R,2,none⟩) hR).trans h.wide,h.hA,by rw[hl];exact h.hD,?_,hL,h.ne1,h.ne2,h.ne3⟩;rcases Nat.eq_zero_or_pos M.length with h1|h1
 ·exact⟨fun h=>by omega,fun i hi=>by omega,fun i hi=>by omega⟩
 ·exact h.L.same (hg.block g (h.L.lt h1) (by simpa using h.ne1)) (KeepB.grown hg hc zb)
def two(g d:Nat):Nat->Prop:=fun i=>i=g∨i=d
theorem gauss_both.swap(b0 R g d cl cd bt bi bo:Nat)(Al Ad:Option Addr)(M D:List (List Int))(cols wd top i:Nat)(o:Int)(w:World)(H:Hold w R g d cl cd Al Ad M D cols)(S:Shp M D cols wd)(hb:w.cell? ⟨b0,0,none⟩=some (.pointer (some ⟨R,0,none⟩)))
 (ht:w.cell? ⟨bt,0,none⟩=some (.int .i64 top)) (hi:w.cell? ⟨bi,0,none⟩=some (.int .i64 i)) (ho:w.cell? ⟨bo,0,none⟩=some (.int .u8 o)) (hor:0<=o/\o<256) (htn:top<M.length) (hin:i<M.length)
 (n0:b0≠g/\bt≠g/\bi≠g/\bo≠g) (n1:bt≠d/\bi≠d/\bo≠d):
 Calls Tryd.prog 106 #[.func (.func 109) #[] #[.pointer (some ⟨bt,0,none⟩),.pointer (some ⟨bi,0,none⟩),.pointer (some ⟨bo,0,none⟩)],.pointer (some ⟨b0,0,none⟩)] w
  fun e w'=>(∃v,e= .returned v)/\Aside0 (Hold w' R g d cl cd Al Ad (swapS o M top i) (swapS o D top i) cols/\Chg w w' (two g d)):=by
 obtain⟨aa,O,U,X⟩:=n0;obtain⟨n11,n12,n13⟩:=n1;have hl:=H.head;have e1:=H.hA za;have hdl:=S.len;have e2:=H.hD za;subst e1 e2;obtain⟨a1,_,_⟩:=shp_swap1 (o:=o) S.bM S.eM htn hin;have c1:=gauss_swap.calls g M.length cl bt bi bo top i o M w H.L S.bM ht hi ho O U X htn hin rfl zad (fun j hj=>by rw[S.eM j hj];have:=S.small;omega) hor
 have c2: ∀w1,Lst w1 g (swapS o M top i)/\w.grownBy w1 (some g)->w1.cell? ⟨b0,0,none⟩=some (.pointer (some ⟨R,0,none⟩))/\w1.cell? ⟨R,1,none⟩=some (.slice (some ⟨d,0,none⟩) D.length cd)/\
  Calls Tryd.prog 109 #[.slice (some ⟨d,0,none⟩) D.length cd,.pointer (some ⟨bt,0,none⟩),.pointer (some ⟨bi,0,none⟩),.pointer (some ⟨bo,0,none⟩)] w1 fun e w2=>(∃v,e= .returned v)/\Aside0 (Lst w2 d (swapS o D top i)/\w1.grownBy w2 (some d)):=by
  intro w1 ⟨I,G⟩;have H1:=H.left G I a1 za;have cc: ∀b v,b≠g->w.cell? ⟨b,0,none⟩=some v->w1.cell? ⟨b,0,none⟩=some v:=fun b v hne hv=>(cell_same (p:=⟨b,0,none⟩) (G.block b (World.block_lt_of_cell? _ _ hv) (by simpa using hne))).trans hv;exact⟨cc _ _ aa hb,H1.also,gauss_swap.calls d D.length cd bt bi bo top i o D w1 H1.LD S.bD (cc _ _ O ht) (cc _ _ U hi) (cc _ _ X ho) n11 n12 n13 za za rfl zad (fun j hj=>by rw[S.eD j za];have:=S.small;omega) hor⟩
 have HH:=aK H;have A1:=aK a1;have SS:=aK S;have C2:=aK c2;clear H S a1 c2 hdl ht hi ho hor
 go_enter Tryd.func106,Tryd.ntmps106
 go_wp2_with (first|(go_at_call 109;refine c1.mono ?_;clear c1;rintro e w1 ⟨⟨v,rfl⟩,hq⟩;obtain⟨ab,ac,h3⟩:=C2.out w1 hq.out)|(go_at_call 109;refine h3.mono ?_;clear h3;rintro e w2 ⟨⟨v2,rfl⟩,Z⟩))
 go_end0
 refine⟨⟨_,rfl⟩,⟨?_⟩⟩;obtain⟨I,G⟩:=hq.out;obtain⟨Y,J⟩:=Z.out;have H1:=HH.out.left G I A1.out za;have hdl:=SS.out.len;exact⟨H1.right J Y (by simp[swapS]) za,((Chg.grown G).mono fun i _ h=> .inl h).trans ((Chg.grown J).mono fun i _ h=> .inr h)⟩
theorem gauss_both.mac(b0 R g d cl cd bk bc bt:Nat)(Al Ad:Option Addr)(M D:List (List Int))(cols wd k top:Nat)(c:Int)(w:World)(H:Hold w R g d cl cd Al Ad M D cols)(S:Shp M D cols wd)(hb:w.cell? ⟨b0,0,none⟩=some (.pointer (some ⟨R,0,none⟩)))
 (hk:w.cell? ⟨bk,0,none⟩=some (.int .i64 k)) (hc:w.cell? ⟨bc,0,none⟩=some (.int .u8 c)) (ht:w.cell? ⟨bt,0,none⟩=some (.int .i64 top)) (hcr:0<=c/\c<256) (hkn:k<M.length) (htn:top<M.length)
 (n0:b0≠g/\bk≠g/\bc≠g/\bt≠g):
 Calls Tryd.prog 106 #[.func (.func 111) #[] #[.pointer (some ⟨bk,0,none⟩),.pointer (some ⟨bc,0,none⟩),.pointer (some ⟨bt,0,none⟩)],.pointer (some ⟨b0,0,none⟩)] w
  fun e w'=>(∃v,e= .returned v)/\Aside0 (Hold w' R g d cl cd Al Ad (macS M k top c) (macS D k top c) cols/\Chg w w' (two g d)):=by
 obtain⟨X,Y,Z,aa⟩:=n0;have hl:=H.head;have e1:=H.hA za;have hdl:=S.len;have e2:=H.hD za;subst e1 e2;have a1:(macS M k top c).length=M.length:=by simp[macS]
 have c1:=gauss_mac.calls g M.length cl bk bc bt k top c M w H.L S.bM hk hc ht hkn htn rfl zad (fun j hj=>by rw[S.eM j hj];have:=S.small;omega) (by rw[S.eM k hkn,S.eM top htn]) hcr
 have c2: ∀w1,Lst w1 g (macS M k top c)/\w.grownBy w1 (some g)->w1.cell? ⟨b0,0,none⟩=some (.pointer (some ⟨R,0,none⟩))/\w1.cell? ⟨R,1,none⟩=some (.slice (some ⟨d,0,none⟩) D.length cd)/\
  Calls Tryd.prog 111 #[.slice (some ⟨d,0,none⟩) D.length cd,.pointer (some ⟨bk,0,none⟩),.pointer (some ⟨bc,0,none⟩),.pointer (some ⟨bt,0,none⟩)] w1 fun e w2=>(∃v,e= .returned v)/\Aside0 (Lst w2 d (macS D k top c)/\w1.grownBy w2 (some d)):=by
  intro w1 ⟨I,G⟩;have H1:=H.left G I a1 za;have cc: ∀b v,b≠g->w.cell? ⟨b,0,none⟩=some v->w1.cell? ⟨b,0,none⟩=some v:=fun b v hne hv=>(cell_same (p:=⟨b,0,none⟩) (G.block b (World.block_lt_of_cell? _ _ hv) (by simpa using hne))).trans hv;exact⟨cc _ _ X hb,H1.also,gauss_mac.calls d D.length cd bk bc bt k top c D w1 H1.LD S.bD (cc _ _ Y hk) (cc _ _ Z hc) (cc _ _ aa ht) za za rfl zad (fun j hj=>by rw[S.eD j za];have:=S.small;omega) (by rw[S.eD k hkn,S.eD top htn]) hcr⟩
 have HH:=aK H;have A1:=aK a1;have SS:=aK S;have C2:=aK c2;clear H S a1 c2 hdl hk hc ht hcr
 go_enter Tryd.func106,Tryd.ntmps106
 go_wp2_with (first|(go_at_call 111;refine c1.mono ?_;clear c1;rintro e w1 ⟨⟨v,rfl⟩,hq⟩;obtain⟨ab,ac,h3⟩:=C2.out w1 hq.out)|(go_at_call 111;refine h3.mono ?_;clear h3;rintro e w2 ⟨⟨v2,rfl⟩,U⟩))
 go_end0
 refine⟨⟨_,rfl⟩,⟨?_⟩⟩;obtain⟨I,G⟩:=hq.out;obtain⟨O,J⟩:=U.out;have H1:=HH.out.left G I A1.out za;have hdl:=SS.out.len;exact⟨H1.right J O (by simp[macS]) za,((Chg.grown G).mono fun i _ h=> .inl h).trans ((Chg.grown J).mono fun i _ h=> .inr h)⟩
def seekCol(M:List (List Int))(j:Nat):Nat->Nat->Option Nat
 |0,_=>none
 |f+1,i=>if entry M i j≠0 then some i else seekCol M j f (i+1)
def firstIn(M:List (List Int))(top j:Nat):Option Nat:=seekCol M j (M.length-top) top
def ZeroTo(M:List (List Int))(top col j:Nat):Prop:= ∀j',col<=j'->j'<j-> ∀i',top<=i'->i'<M.length->entry M i' j'=0
def ZeroIn(M:List (List Int))(top j i:Nat):Prop:= ∀i',top<=i'->i'<i->entry M i' j=0
theorem seekCol_none{M:List (List Int)}{j:Nat} : ∀f i,(∀i',i<=i'->i'<i+f->entry M i' j=0)->seekCol M j f i=none
 |0,_,_=>rfl
 |f+1,i,h=>by
  unfold seekCol;rw[if_neg (by simpa using h i (Nat.le_refl _) za)];exact seekCol_none f (i+1) fun i' a b=>h i' za za
theorem seekCol_some{M:List (List Int)}{j r:Nat} : ∀f i,i<=r->r<i+f->entry M r j≠0->(∀i',i<=i'->i'<r->entry M i' j=0)->seekCol M j f i=some r
 |0,i,h1,h2,_,_=>by omega
 |f+1,i,h1,h2,h3,h4=>by
  unfold seekCol;by_cases e:i=r
  case neg=>rw[if_neg (by simpa using h4 i (Nat.le_refl _) za)];exact seekCol_some f (i+1) za za h3 fun i' a b=>h4 i' za b
  subst e;rw[if_pos h3]
theorem seekCol_spec{M:List (List Int)}{j r:Nat} : ∀f i,seekCol M j f i=some r->i<=r/\r<i+f/\entry M r j≠0/\ ∀i',i<=i'->i'<r->entry M i' j=0
 |0,i,h=>by cases h
 |f+1,i,h=>by
  unfold seekCol at h;by_cases e:entry M i j≠0
  ·rw[if_pos e]at h
   cases h
   exact⟨Nat.le_refl _,by omega,e,fun i' a b=>by omega⟩
  rw[if_neg e]at h
  obtain⟨h1,h2,h3,h4⟩:=seekCol_spec f (i+1) h;refine⟨by omega,by omega,h3,fun i' a b=>?_⟩;by_cases e2:i'=i
  case neg=>exact h4 i' za b
  rw[e2];simpa using e
theorem gauss_seek.calls(R g d cl cd:Nat)(Al Ad:Option Addr)(M D:List (List Int))(cols wd top col:Nat)(w:World)(h:Hold w R g d cl cd Al Ad M D cols)(hS:Shp M D cols wd)(htop:top<=1048576)(hcol:col<=1048577)(h0:0<M.length):
 Calls Tryd.prog 107 #[.pointer (some ⟨R,0,none⟩),.int .i64 top,.int .i64 col] w fun e w'=> ∃(i j:Nat) (b:Bool),e= .returned (.tuple #[.int .i64 i,.int .i64 j,.bool b])/\w'=w/\
  (if b then j<cols/\col<=j/\top<=i/\i<M.length/\entry M i j≠0/\ZeroIn M top j i/\ZeroTo M top col j else ZeroTo M top col cols):=by
 have hA:=h.hA h0;subst hA;have J:=h.head;have h2:=h.wide;have hM:=hS.small.1;have hc:=hS.small.2.1;have H:=aK h.L;have HS:=aK hS;clear h hS h0
 go_enter Tryd.func107,Tryd.ntmps107
 go_wp2;refine wp_scope_straight ?_;go_wp2
 go_step3
 go_wp2
 go_loop [6,7,8] (fun vi vj vb=> ∃i j:Nat,vi= .int .i64 i/\vj= .int .i64 j/\vb= .bool false/\col<=j/\j<=1048577/\i<=1048577/\Aside0 (ZeroTo M top col j)) (fun _ v _=>cols-(intOf v).toNat)
 case atStart=>exact⟨0,col,rfl,rfl,rfl,Nat.le_refl _,hcol,by omega,⟨fun j' a b=>by omega⟩⟩
 case round=>
  obtain⟨i0,j,rfl,rfl,rfl,hj,X,O,HZ⟩:=hrel;by_cases hlt:j<cols
  case neg=>
   go_wp2
   go_ret3
   refine⟨i0,j,false,rfl,rfl,?_⟩;simp only[Bool.false_eq_true,if_false];exact fun j' a b=>HZ.out j' a za
  go_wp2
  go_loop [6,8] (fun vi vb=> ∃i:Nat,vi= .int .i64 i/\vb= .bool false/\top<=i/\i<=1048576/\Aside0 (ZeroIn M top j i)) (fun v _=>M.length-(intOf v).toNat)
  case atStart=>exact⟨top,rfl,rfl,Nat.le_refl _,htop,⟨fun i' a b=>by omega⟩⟩
  case round=>
   obtain⟨i,rfl,rfl,hti,U,HZI⟩:=hrel;by_cases hin:i<M.length
   case neg=>
    go_wp2
    go_round
    case rel=>exact⟨i,j+1,rfl,by go_num,rfl,by omega,by omega,by omega,⟨fun j' a b i' c d=>(Nat.lt_or_eq_of_le (Nat.le_of_lt_succ b)).elim (fun h=>HZ.out j' a h i' c d) (fun e=>by rw[e];exact HZI.out i' c za)⟩⟩
    case measure=>simp[intOf];omega
   obtain⟨v,hr,hv⟩:=H.out.row i hin;obtain⟨A,c,rfl,hlc,hC,_⟩:=hv.out;have hev:=HS.out.eM i hin;obtain⟨ad,eA,G⟩:=Kd.at_int hC (j:Int) za (by rw[hev];omega);subst eA;rw[hev]at hr
   have hx:w.cell? (ad.add j)=some (.int .u8 (entry M i j)):=by
    rw[show entry M i j=rd (M.getD i []) (j:Int)from by simp[entry,rd]];simpa using G
   obtain⟨x,ex⟩: ∃x,x=entry M i j:=⟨_,rfl⟩
   rw[<-ex]at hx
   have EX:=aK ex;clear ex G hC hv;by_cases h0x:x=0
   ·subst h0x;go_wp2
    go_round
    case rel=>exact⟨i+1,by go_num,rfl,by omega,by omega,⟨fun i' a b=>(Nat.lt_or_eq_of_le (Nat.le_of_lt_succ b)).elim (HZI.out i' a) (fun e=>by rw[e];exact EX.out.symm)⟩⟩
    case measure=>simp[intOf];omega
   have I:(x !=0)=true:=bne_iff_ne.mpr h0x;go_wp2
   go_ret3
   refine⟨i,j,true,rfl,rfl,?_⟩;simp only[if_true];exact⟨hlt,hj,hti,hin,fun e=>h0x (by rw[EX.out];exact e),HZI.out,HZ.out⟩
def invT(a:Int):Int:=((field_Inv.f a).getD (0,0)).1
def elimTo(col top:Nat):Nat->List (List Int)×List (List Int)->List (List Int)×List (List Int)
 |0,s=>s
 |k+1,s=>let t:=elimTo col top k s;if k≠top/\entry t.1 k col≠0 then(macS t.1 k top (entry t.1 k col),macS t.2 k top (entry t.1 k col))else t
def stepAt(M D:List (List Int))(top i j:Nat):List (List Int)×List (List Int):=elimTo j top M.length (swapS (invT (entry M i j)) M top i,swapS (invT (entry M i j)) D top i)
def redStep(j:Nat)(s:(List (List Int)×List (List Int))×List Int):(List (List Int)×List (List Int))×List Int:=match firstIn s.1.1 s.2.length j with
 |none=>s
 |some i=>(stepAt s.1.1 s.1.2 s.2.length i j,s.2++ [(j:Int)])
theorem redStep_none{j:Nat}{s:(List (List Int)×List (List Int))×List Int}(h:firstIn s.1.1 s.2.length j=none):redStep j s=s:=by unfold redStep;rw[h]
theorem redStep_some{j i:Nat}{s:(List (List Int)×List (List Int))×List Int}(h:firstIn s.1.1 s.2.length j=some i):redStep j s=(stepAt s.1.1 s.1.2 s.2.length i j,s.2++ [(j:Int)]):=by unfold redStep;rw[h]
def redTo(M D:List (List Int)):Nat->(List (List Int)×List (List Int))×List Int
 |0=>((M,D),[])
 |j+1=>redStep j (redTo M D j)
theorem inv_some{a:Int}(h:0<=a/\a<256)(h0:a≠0):field_Inv.f a=some (invT a,0)/\0<=invT a/\invT a<256:=by
 have e:field_bounded.f (-1)=some 254:=by kernel_rfl
 have hl:=field_build.log_range (i:=a.toNat) za;have e2:field_Inv.f a=some (field_build.exp ((field_build.log a.toNat*254) % 255).toNat,0):=by
  unfold field_Inv.f field_Pow.f;rw[if_neg za,if_neg h0,if_pos h,e];simp
 have e3:invT a=field_build.exp ((field_build.log a.toNat*254) % 255).toNat:=by unfold invT;rw[e2,Option.getD_some]
 rw[e3];refine⟨e2,?_⟩;have hlt:((field_build.log a.toNat*254) % 255).toNat<(field_build.st 255).1.length:=by
  rw[(field_build.st_length 255).1];generalize field_build.log a.toNat=q;omega
 generalize((field_build.log a.toNat*254) % 255).toNat=i at*;exact bytesB_at exp_bytes hlt
theorem entry_byte{M D:List (List Int)}{cols wd:Nat}(h:Shp M D cols wd){i j:Nat}(hi:i<M.length)(hj:j<cols):0<=entry M i j/\entry M i j<256:=
 bytesB_at (rowsB_at h.bM i) (by rw[h.eM i hi];exact hj)
theorem elim_shp{M D:List (List Int)}{cols wd col top:Nat}(h:Shp M D cols wd)(ht:top<M.length): ∀k,k<=M.length->Shp (elimTo col top k (M,D)).1 (elimTo col top k (M,D)).2 cols wd/\(elimTo col top k (M,D)).1.length=M.length
 |0,_=>⟨h,rfl⟩
 |k+1,hk=>by
  obtain⟨ih,il⟩:=elim_shp (col:=col) h ht k za;unfold elimTo;simp only[]
  split
  ·exact⟨ih.mac za za,by simp[macS,il]⟩
  ·exact⟨ih,il⟩
theorem step_shp{M D:List (List Int)}{cols wd top i j:Nat}(h:Shp M D cols wd)(ht:top<M.length)(hi:i<M.length):Shp (stepAt M D top i j).1 (stepAt M D top i j).2 cols wd/\(stepAt M D top i j).1.length=M.length:=by
 have hs:=h.swap (o:=invT (entry M i j)) ht hi;have hl:(swapS (invT (entry M i j)) M top i).length=M.length:=by simp[swapS]
 have:=elim_shp (col:=j) hs (by omega:top<_) M.length za;rw[hl]at this
 exact this
theorem red_shp{M D:List (List Int)}{cols wd:Nat}(h:Shp M D cols wd): ∀j,Shp (redTo M D j).1.1 (redTo M D j).1.2 cols wd/\(redTo M D j).1.1.length=M.length/\(redTo M D j).2.length<=M.length/\(redTo M D j).2.length<=j
 |0=>⟨h,rfl,Nat.zero_le _,Nat.zero_le _⟩
 |j+1=>by
  obtain⟨a,b,c,d⟩:=red_shp h j;show Shp (redStep j (redTo M D j)).1.1 (redStep j (redTo M D j)).1.2 cols wd/\(redStep j (redTo M D j)).1.1.length=M.length/\(redStep j (redTo M D j)).2.length<=M.length/\(redStep j (redTo M D j)).2.length<=j+1
  cases hf:firstIn (redTo M D j).1.1 (redTo M D j).2.length j with
  |none=>
   rw[redStep_none hf];exact⟨a,b,c,by omega⟩
  |some i=>
   rw[redStep_some hf];obtain⟨h1,h2,_⟩:=seekCol_spec _ _ hf;have hs:=step_shp (j:=j) a (by omega:(redTo M D j).2.length<_) (by omega:i<_);exact⟨hs.1,by rw[hs.2,b],by simp;omega,by simp;omega⟩
theorem red_skip{M D:List (List Int)}{j:Nat} : ∀n,ZeroTo (redTo M D j).1.1 (redTo M D j).2.length j (j+n)->redTo M D (j+n)=redTo M D j
 |0,_=>rfl
 |n+1,h=>by
  have ih:=red_skip (M:=M) (D:=D) n fun j' a b=>h j' a za;show redStep (j+n) (redTo M D (j+n))=_;rw[ih];exact redStep_none (seekCol_none _ _ fun i' a b=>h (j+n) za za i' a za)
theorem red_hit{M D:List (List Int)}{c j i:Nat}(hcj:c<=j)(hz:ZeroTo (redTo M D c).1.1 (redTo M D c).2.length c j)(h1:(redTo M D c).2.length<=i)(h2:i<(redTo M D c).1.1.length)(h3:entry (redTo M D c).1.1 i j≠0)(h4:ZeroIn (redTo M D c).1.1 (redTo M D c).2.length j i):
 redTo M D (j+1)=(stepAt (redTo M D c).1.1 (redTo M D c).1.2 (redTo M D c).2.length i j,(redTo M D c).2++ [(j:Int)]):=by
 obtain⟨n,rfl⟩: ∃n,j=c+n:=⟨j-c,by omega⟩
 have e:=red_skip n hz;show redStep (c+n) (redTo M D (c+n))=_;rw[e];exact redStep_some (seekCol_some _ _ h1 za h3 h4)
structure RG (w:World) (R g d cl cd b0 bt:Nat) (Al Ad:Option Addr) (M D:List (List Int)) (cols top:Nat) (piv:List Int) (v3:Value) (wr:World):Prop where
 hold:Hold wr R g d cl cd Al Ad M D cols
 cbt:wr.cell? ⟨bt,0,none⟩=some (.int .i64 top)
 fbt:wr.frozen? ⟨bt,0,none⟩=false
 cb0:wr.cell? ⟨b0,0,none⟩=some (.pointer (some ⟨R,0,none⟩))
 piv:Kd.R (Kd.int .i64) 3 wr w.heap.size (fun k=>k≠bt/\k≠b0) v3 piv
 chg:Chg w wr (fun i=>two g d i∨w.heap.size<=i)
 n1:w.heap.size<=bt
 n2:w.heap.size<=b0
theorem RG.below{w:World}{R g d cl cd b0 bt:Nat}{Al Ad:Option Addr}{M D:List (List Int)}{cols top:Nat}{piv:List Int}{v3:Value}{wr w1:World}(h:RG w R g d cl cd b0 bt Al Ad M D cols top piv v3 wr)(hb:Below wr.heap.size wr w1):RG w R g d cl cd b0 bt Al Ad M D cols top piv v3 w1:=
 ⟨h.hold.below hb,(hb.cell (p:=⟨bt,0,none⟩) (World.block_lt_of_cell? _ _ h.cbt)).trans h.cbt,(below_frozen (p:=⟨bt,0,none⟩) hb (World.block_lt_of_cell? _ _ h.cbt)).trans h.fbt,(hb.cell (p:=⟨b0,0,none⟩) (World.block_lt_of_cell? _ _ h.cb0)).trans h.cb0,
  R_below h.piv hb,h.chg.trans (Chg.below_all hb _),h.n1,h.n2⟩
theorem RG.drew{w:World}{R g d cl cd b0 bt:Nat}{Al Ad:Option Addr}{M D:List (List Int)}{cols top:Nat}{piv:List Int}{v3:Value}{wr:World}(h:RG w R g d cl cd b0 bt Al Ad M D cols top piv v3 wr):RG w R g d cl cd b0 bt Al Ad M D cols top piv v3 wr.drew:=h.below (below_drew (Below.refl _ _))
theorem RG.both{w:World}{R g d cl cd b0 bt:Nat}{Al Ad:Option Addr}{M D M' D':List (List Int)}{cols top:Nat}{piv:List Int}{v3:Value}{wr w1:World}(h:RG w R g d cl cd b0 bt Al Ad M D cols top piv v3 wr)(hg:g<w.heap.size)(hd:d<w.heap.size)
 (hh:Hold w1 R g d cl cd Al Ad M' D' cols) (hc:Chg wr w1 (two g d)):RG w R g d cl cd b0 bt Al Ad M' D' cols top piv v3 w1:=by
 have n1:=h.n1;have n2:=h.n2;have hbt:=hc.block bt (World.block_lt_of_cell? _ _ h.cbt) (fun e=>by rcases e with e|e<;>omega);have G:=hc.block b0 (World.block_lt_of_cell? _ _ h.cb0) (fun e=>by rcases e with e|e<;>omega)
 exact⟨hh,(cell_same (p:=⟨bt,0,none⟩) hbt).trans h.cbt,(frozen_same (p:=⟨bt,0,none⟩) hbt).trans h.fbt,(cell_same (p:=⟨b0,0,none⟩) G).trans h.cb0,
  R_mono (Kd.R_step (R_bound h.piv) (fun k hk hlt=>hc.block k hlt (fun e=>by have:=hk.2.1;rcases e with e|e<;>omega))) (fun k hk=>hk.1),h.chg.trans (hc.mono fun i _ hi=> .inl hi),n1,n2⟩
theorem RG.app{w:World}{R g d cl cd b0 bt:Nat}{Al Ad:Option Addr}{M D:List (List Int)}{cols top:Nat}{piv piv':List Int}{v3 v3':Value}{wr w1:World}(h:RG w R g d cl cd b0 bt Al Ad M D cols top piv v3 wr)(hg:g<w.heap.size)(hd:d<w.heap.size)(hR:R<w.heap.size)
 (hr:wr.grownBy w1 v3.ownBlock) (hp:Kd.R (Kd.int .i64) 3 w1 w.heap.size (fun k=>k≠bt/\k≠b0) v3' piv'):RG w R g d cl cd b0 bt Al Ad M D cols top piv' v3' w1:=by
 have n1:=h.n1;have n2:=h.n2;have hv: ∀k,v3.ownBlock=some k->w.heap.size<=k/\k≠bt/\k≠b0/\ ∃cells:Array Value,wr.heap[k]? =some (.cells cells 3 (0,0)):=fun k hk=>by
  have hb:=R_bound h.piv;have h0:=hb.1 k hk;obtain⟨h1,h2,_,q,hq,c,hc⟩:=h0;refine⟨h2,h1.1,h1.2,c,?_⟩;have:q=3:=(List.mem_cons.1 hq).elim id (fun hx=>by cases hx);rw[<-this];exact hc
 have blk: ∀b,b<wr.heap.size->(∀k,v3.ownBlock=some k->b≠k)->w1.heap[b]? =wr.heap[b]? :=fun b hb hne=>hr.block b hb (by
  cases I:v3.ownBlock with
  |none=>simp
  |some k=>simpa using hne k I)
 have kb:KeepB wr w1:=fun b cells hb=>blk b (lt_of_get hb) (fun k hk e=>by
  obtain⟨_,_,_,c,hc⟩:=hv k hk;subst e;rw[hb]at hc
  injection hc with hc;injection hc with _ hc;exact absurd hc zb)
 have hc:Chg wr w1 (fun i=>v3.ownBlock=some i):=⟨hr.os,hr.tape,hr.output,hr.size,fun i hi hs=>hr.block i hi (fun e=>hs e.symm)⟩
 have hbt:=blk bt (World.block_lt_of_cell? _ _ h.cbt) (fun k hk=>fun e=>(hv k hk).2.1 e.symm);have G:=blk b0 (World.block_lt_of_cell? _ _ h.cb0) (fun k hk=>fun e=>(hv k hk).2.2.1 e.symm);refine⟨h.hold.chg hc kb (fun e=>?_) (fun _ e=>?_) (fun _ e=>?_),(cell_same (p:=⟨bt,0,none⟩) hbt).trans h.cbt,(frozen_same (p:=⟨bt,0,none⟩) hbt).trans h.fbt,(cell_same (p:=⟨b0,0,none⟩) G).trans h.cb0,hp,h.chg.trans (hc.mono fun i _ hi=> .inr (hv i hi).1),n1,n2⟩
 all_goals
  have:=(hv _ e).1;omega
theorem RG.next{w:World}{R g d cl cd b0 bt:Nat}{Al Ad:Option Addr}{M D:List (List Int)}{cols top:Nat}{piv:List Int}{v3:Value}{wr:World}(h:RG w R g d cl cd b0 bt Al Ad M D cols top piv v3 wr)(top':Nat):
 RG w R g d cl cd b0 wr.heap.size Al Ad M D cols top' piv v3 (wr.alloc (.cells #[.int .i64 top'] 3)):=by
 have h1:=h.below (below_alloc (Below.refl _ _) (.cells #[.int .i64 top'] 3));have hl:wr.heap.size<(wr.alloc (.cells #[.int .i64 top'] 3)).heap.size:=by simp
 refine⟨h1.hold,?_,?_,h1.cb0,R_mono (R_alloc (R_bound h.piv) _) (fun k hk=>⟨by have:=hk.2.2.1;omega,hk.1.2⟩),h1.chg,h.chg.size,h.n2⟩
 ·exact(blk_cell (blk_new _ _) 0).trans rfl
 ·exact blk_frozen (blk_new _ _) 0
theorem red_full{M D:List (List Int)}{j:Nat}(h:(redTo M D j).1.1.length<=(redTo M D j).2.length)(n:Nat):redTo M D (j+n)=redTo M D j:=
 red_skip n fun j' _ _ i' a b=>by omega
theorem RG.own_lt{w:World}{R g d cl cd b0 bt:Nat}{Al Ad:Option Addr}{M D:List (List Int)}{cols top:Nat}{piv:List Int}{v3:Value}{wr:World}(h:RG w R g d cl cd b0 bt Al Ad M D cols top piv v3 wr){k:Nat}(hk:v3.ownBlock=some k):k<wr.heap.size:=
 ((R_bound h.piv).1 k hk).2.2.1
theorem RG.young{w:World}{R g d cl cd b0 bt:Nat}{Al Ad:Option Addr}{M D:List (List Int)}{cols top:Nat}{piv:List Int}{v3:Value}{wr w1 w2:World}(h:RG w R g d cl cd b0 bt Al Ad M D cols top piv v3 wr){b:Nat}(hb:wr.heap.size<=b)(G:b<w1.heap.size)(hg:w1.grownBy w2 v3.ownBlock):w2.heap[b]? =w1.heap[b]? :=
 hg.block b G (by
  cases hv:v3.ownBlock with
  |none=>simp
  |some k=>
   have:=h.own_lt hv;intro e;injection e with e;omega)
theorem RG.old{w:World}{R g d cl cd b0 bt:Nat}{Al Ad:Option Addr}{M D:List (List Int)}{cols top:Nat}{piv:List Int}{v3:Value}{wr:World}(h:RG w R g d cl cd b0 bt Al Ad M D cols top piv v3 wr):bt<wr.heap.size/\b0<wr.heap.size:=⟨World.block_lt_of_cell? _ _ h.cbt,World.block_lt_of_cell? _ _ h.cb0⟩
theorem gauss_reduce.calls(R g d cl cd:Nat)(Al Ad:Option Addr)(M D:List (List Int))(cols wd:Nat)(w:World)(hH:Hold w R g d cl cd Al Ad M D cols)(hS:Shp M D cols wd)(hg:g<w.heap.size)(hd:d<w.heap.size):
 Calls Tryd.prog 93 #[.pointer (some ⟨R,0,none⟩)] w fun e w'=> ∃v,e= .returned v/\Aside0 (Hold w' R g d cl cd Al Ad (redTo M D cols).1.1 (redTo M D cols).1.2 cols/\Kd.R (Kd.int .i64) 3 w' w.heap.size (fun _=>True) v (redTo M D cols).2/\Chg w w' (fun i=>two g d i∨w.heap.size<=i)):=by
 have hR:=hH.small;have HH:=aK hH;have HS:=aK hS;clear hH hS
 go_enter Tryd.func93,Tryd.ntmps93
 go_wp2;have H0:Aside0 (RG w R g d cl cd w.heap.size (w.heap.size+1) Al Ad M D cols 0 [] (.slice none 0 0) ((w.alloc (.cells #[.pointer (some ⟨R,0,none⟩)] 123)).alloc (.cells #[.int .i64 0] 3))):=by
  have hb:=below_alloc (below_alloc (Below.refl w.heap.size w) (.cells #[.pointer (some ⟨R,0,none⟩)] 123)) (.cells #[.int .i64 0] 3);have e1:=blk_new (w.alloc (.cells #[.pointer (some ⟨R,0,none⟩)] 123)) (.cells #[.int .i64 0] 3);rw[World.size_alloc]at e1
  have e0:((w.alloc (.cells #[.pointer (some ⟨R,0,none⟩)] 123)).alloc (.cells #[.int .i64 0] 3)).heap[w.heap.size]? =some (.cells #[.pointer (some ⟨R,0,none⟩)] 123):=heap_alloc2_old w _ _;exact⟨⟨HH.out.below hb,(blk_cell e1 0).trans rfl,blk_frozen e1 0,(blk_cell e0 0).trans rfl,R_nil _ _ _ _ _,(Chg.below_all hb _),by omega,Nat.le_refl _⟩⟩
 generalize(w.alloc (.cells #[.pointer (some ⟨R,0,none⟩)] 123)).alloc (.cells #[.int .i64 0] 3)=W0 at*
 go_loopg [3,5,6] M.length (fun kq v3 v5 v6 wr=> ∃(col bt:Nat),v5= .pointer (some ⟨bt,0,none⟩)/\v6= .int .i64 col/\col<=cols/\Aside0 (kq+(redTo M D col).2.length=M.length)/\Aside0 (RG w R g d cl cd w.heap.size bt Al Ad (redTo M D col).1.1 (redTo M D col).1.2 cols (redTo M D col).2.length (redTo M D col).2 v3 wr))
 case atStart=>exact⟨0,w.heap.size+1,rfl,rfl,Nat.zero_le _,⟨rfl⟩,H0⟩
 case round=>
  obtain⟨col,bt,rfl,rfl,hcol,HK,HG⟩:=hrel;clear H0;obtain⟨aw,aj,ba,a0⟩:=red_shp HS.out col;have ab:=aK aw;have hsm:=HS.out.small;have I:=aK HG.out.drew;have y1:wr.drew.cell? ⟨bt,0,none⟩=some (.int .i64 (redTo M D col).2.length):=I.out.cbt;have y2:wr.drew.cell? ⟨w.heap.size,0,none⟩=some (.pointer (some ⟨R,0,none⟩)):=I.out.cb0;have y3:wr.drew.cell? ⟨R,0,none⟩=some (.slice Al M.length cl):=by rw[<-aj];exact I.out.hold.head
  have hbd:(redTo M D col).2.length<=64:=by omega
  clear aw HG a0;generalize es:redTo M D col=s at*;have ES:=aK es;clear es
  go_wp2_with fail
  refine start_ (n:=7) (S:=fun w'=>w'.cell? ⟨bt,0,none⟩=some (.int .i64 s.2.length)/\w'.cell? ⟨w.heap.size,0,none⟩=some (.pointer (some ⟨R,0,none⟩))/\w'.cell? ⟨R,0,none⟩=some (.slice Al M.length cl)) (ds:= []) (mB 7 0) zc rfl rfl ⟨y1,y2,y3⟩ (fun hHeld=>?_);refine ztk3 0 (some 15) (mB 7 1) hHeld ?_;refine ztk3 1 (some 16) (mB 7 3) hHeld ?_;refine zpu 2 (some 17) (mB 7 7) ?_;refine zpu 3 (some 18) (mB 7 15) ?_;refine ztk3 4 (some 19) (mB 7 31) hHeld ?_;refine zpu 5 (some 20) (mB 7 63) ?_;refine zpu 6 (some 21) (mB 7 127) ?_;refine done_ zc ?_;clear hHeld;generalize wr.drew=w1 at*;by_cases hlt:s.2.length<M.length
  case neg=>
   have HE:=aK (red_full (M:=M) (D:=D) (j:=col) (by rw[ES.out];omega) (cols-col));rw[show col+(cols-col)=cols from by omega]at HE
   go_wp2_with fail
   go_ret
   refine⟨_,rfl,?_⟩;rw[HE.out,ES.out];exact⟨⟨I.out.hold,R_mono I.out.piv (fun _ _=>trivial),I.out.chg⟩⟩
  have tst:decide ((s.2.length:Int)<(M.length:Int))=true:=by simpa using hlt
  go_wp2_with fail
  refine(gauss_seek.calls R g d cl cd Al Ad s.1.1 s.1.2 cols wd s.2.length col w1 I.out.hold ab.out za za za).mono ?_;rintro e w2 ⟨i,j,b,rfl,rfl,hsk⟩
  cases b with
  |false=>
   have HZ:=aK (show ZeroTo s.1.1 s.2.length col cols from hsk);clear hsk;have HE:=aK (red_skip (M:=M) (D:=D) (j:=col) (cols-col) (by rw[ES.out,show col+(cols-col)=cols from by omega];exact HZ.out));rw[show col+(cols-col)=cols from by omega]at HE
   go_wp2_with fail
   go_ret
   refine⟨_,rfl,?_⟩;have ao:=I.out.below (below_alloc (Below.refl _ _) (.cells #[.int .i64 i] 3));rw[HE.out,ES.out];exact⟨⟨ao.hold,R_mono ao.piv (fun _ _=>trivial),ao.chg⟩⟩
  |true=>
   obtain⟨k1,k2,k3,k4,k5,k6,k7⟩:=hsk;have ay:=aK k5;have a6:=aK k6;have a7:=aK k7;have HHIT:=aK (show redTo M D (j+1)=(stepAt s.1.1 s.1.2 s.2.length i j,s.2++ [(j:Int)])by
    have h:=red_hit (M:=M) (D:=D) (c:=col) (j:=j) (i:=i) k2;rw[ES.out]at h
    exact h k7 k3 k4 k5 k6)
   clear k5 k6 k7;have HOL:=aK I.out.old;have hsz:w.heap.size<=w2.heap.size:=I.out.chg.size;have hpl:s.2.length<=64:=by omega
   go_wp2_with ((with_reducible refine gate_builtin (b:= .append) (xs:= #[.tmp 37,.tmp 39]) rfl ?_);at_builtin;go_loud (refine Kd.R_append (Kd.int .i64) (w0:=w2.alloc (.cells #[.int .i64 i] 3)) w.heap.size rfl (.tmp 37) (.tmp 39) 56 3 (.int .i64 0) 8 rfl Tryd.underlying56 info3 rfl zb za u3 s.2 (j:Int) [.int .i64 j] (fun k=>k≠bt/\k≠w.heap.size) (fun _=>False) rfl (by rw[World.size_alloc];rfl) ?aP (fun _ hk=>hk.elim) ?aF ?aO ?aB ?aS ?aL ?_;(case aP=>exact rfl);(case aB=>exact Below.refl _ _);(case aF=>intro k hk;have:=HOL.out;simp at hk;omega);(case aO=>exact R_alloc I.out.piv _);(case aS=>simp;omega);(case aL=>omega);intro v3' w3 ho hb hgr hat;have HO:=aK ho;have HGR:=aK hgr;clear ho hb hgr hat))
   have O:=aK ((I.out.below (below_alloc (Below.refl _ _) (.cells #[.int .i64 i] 3))).app hg hd hR HGR.out HO.out);have ak:=I.out.young (b:=w2.heap.size) (Nat.le_refl _) zd HGR.out;have hbi:w3.heap[w2.heap.size]? =some (.cells #[.int .i64 i] 3):=ak.trans (blk_new _ _);have bb:w2.heap.size<w3.heap.size:=lt_of_get hbi;generalize w2.heap.size=bi at*;obtain⟨vi,hri,hvi⟩:=O.out.hold.L.row i k4;obtain⟨Ai,ci,rfl,hlc,hCi,_⟩:=hvi.out;have hev:=ab.out.eM i k4;obtain⟨ad,eA,ax⟩:=Kd.at_int hCi (j:Int) za (by rw[hev];omega);subst eA;rw[hev]at hri
   have hx:w3.cell? (ad.add j)=some (.int .u8 (entry s.1.1 i j)):=by
    rw[show entry s.1.1 i j=rd (s.1.1.getD i []) (j:Int)from by simp[entry,rd]];simpa using ax
   have hxb:=entry_byte ab.out k4 k1;have HST:=aK (show stepAt s.1.1 s.1.2 s.2.length i j=elimTo j s.2.length s.1.1.length (swapS (invT (entry s.1.1 i j)) s.1.1 s.2.length i,swapS (invT (entry s.1.1 i j)) s.1.2 s.2.length i)from rfl);have HINV:=aK (inv_some hxb ay.out);clear ax hCi hvi;generalize entry s.1.1 i j=x at*;have z1:=O.out.cb0;have z2:w3.cell? ⟨R,0,none⟩=some (.slice Al M.length cl):=by rw[<-aj];exact O.out.hold.head
   have hAl:=O.out.hold.hA za;have k4M:i<M.length:=by omega
   have ai:=aK aj;clear aj;subst hAl;have z3:w3.cell? ⟨bi,0,none⟩=some (.int .i64 i):=(blk_cell hbi 0).trans rfl;have a9:=O.out.old;clear y1 y2 y3 tst;refine start_ (n:=17) (S:=fun w'=>w'.cell? ⟨w.heap.size,0,none⟩=some (.pointer (some ⟨R,0,none⟩))/\w'.cell? ⟨R,0,none⟩=some (.slice (some ⟨g,0,none⟩) M.length cl)/\w'.cell? ⟨bi,0,none⟩=some (.int .i64 i)/\w'.cell? ⟨g,i,none⟩=some (.slice (some ad) cols ci)/\w'.cell? (ad.add j)=some (.int .u8 x)) (ds:= [15]) (mB 17 0) zc rfl rfl ⟨z1,z2,z3,hri,hx⟩ (fun hHeld=>?_);have aa:=aK O.out.drew;have U:w3.drew.heap[bi]? =some (.cells #[.int .i64 i] 3):=hbi;generalize w3.drew=w4 at aa U hHeld⊢;refine zpu 7 (some 49) (mB 17 128) ?_;refine ztk5 0 (some 42) (mB 17 129) hHeld ?_;refine zpu 1 (some 43) (mB 17 131) ?_;refine zpu 2 (some 44) (mB 17 135) ?_;refine ztk5 3 (some 45) (mB 17 143) hHeld ?_;refine ztk5 4 (some 46) (mB 17 159) hHeld ?_;refine zpu 5 (some 47) (mB 17 191) ?_;refine ztk5 6 (some 48) (mB 17 255) hHeld ?_;refine zpu 8 (some 50) (mB 17 511) ?_;refine ztk5 9 (some 51) (mB 17 1023) hHeld ?_;refine join_ (σ:=Nat) 2 (mB 17 32767) (fun s=> [(52,.tuple #[.int .u8 (invT x),.int .i64 0]),(41,.tuple #[.int .u8 (invT x),.int .i64 0]),(53,.int .u8 (invT x)),(54,.int .i64 0),(10,.pointer (some ⟨s,0,none⟩))]) (fun s w'=>Aside0 (Below w4.heap.size w4 w'/\w4.heap.size<=s/\w'.heap[s]? =some (.cells #[.int .u8 0] 5))) ?_ ?_;rotate_left
   ·intro hCont;refine two_ (i:=10) (j:=14) (Ni:=some 52) (Nj:=some 10) (mB 17 2047) (mB 17 17407) rfl rfl rfl rfl zc zb zb (fun K hK=>?_) (fun K hK=>?_)
    ·skip
     refine goes_ Tryd.func108 zc rfl #[.int .u8 x] ze rfl rfl zn ?_;refine(field_Inv.calls x _ 0 _ HINV.out.1).mono ?_;rintro e w5 ⟨rfl,G⟩;refine⟨_,rfl,?_⟩;refine hK.out _ _ ⟨pw_cell_below G hHeld.1,pw_cell_below G hHeld.2.1,pw_cell_below G hHeld.2.2.1,pw_cell_below G hHeld.2.2.2.1,pw_cell_below G hHeld.2.2.2.2⟩ (fun hHeld=>?_);clear hK K;refine znm (some 52) ?_;refine zpu 11 (some 41) (mB 17 4095) ?_;refine zpu 12 (some 53) (mB 17 8191) ?_;refine zpu 13 (some 54) (mB 17 16383) ?_;refine zon 14 (some 10) (mB 17 32767) fun K hK=>?_;refine value_ (w1:=?_) (v:=?_) ze rfl ?_ ?_;rotate_left 2
     ·go_simp;constructor
      ·rfl
      ·rfl
     refine hK.out _ _ ⟨pw_cell_below (below_alloc (Below.refl _ _) _) hHeld.1,pw_cell_below (below_alloc (Below.refl _ _) _) hHeld.2.1,pw_cell_below (below_alloc (Below.refl _ _) _) hHeld.2.2.1,pw_cell_below (below_alloc (Below.refl _ _) _) hHeld.2.2.2.1,pw_cell_below (below_alloc (Below.refl _ _) _) hHeld.2.2.2.2⟩ (fun hHeld=>?_);clear hK K;refine znm (some 10) ?_;exact norm_ zm (hCont _ _ ⟨⟨below_step G (below_alloc (Below.refl _ _) _),G.size,blk_new _ _⟩⟩)
    ·skip
     refine value_ (w1:=?_) (v:=?_) ze rfl ?_ ?_;rotate_left 2
     ·go_simp;constructor
      ·rfl
      ·rfl
     refine hK.out _ _ ⟨pw_cell_below (below_alloc (Below.refl _ _) _) hHeld.1,pw_cell_below (below_alloc (Below.refl _ _) _) hHeld.2.1,pw_cell_below (below_alloc (Below.refl _ _) _) hHeld.2.2.1,pw_cell_below (below_alloc (Below.refl _ _) _) hHeld.2.2.2.1,pw_cell_below (below_alloc (Below.refl _ _) _) hHeld.2.2.2.2⟩ (fun hHeld=>?_);clear hK K;refine znm (some 10) ?_;refine zon 10 (some 52) (mB 17 18431) fun K hK=>?_;refine goes_ Tryd.func108 zc rfl #[.int .u8 x] ze rfl rfl zn ?_;refine(field_Inv.calls x _ 0 _ HINV.out.1).mono ?_;rintro e w5 ⟨rfl,G⟩;refine⟨_,rfl,?_⟩;refine hK.out _ _ ⟨pw_cell_below G hHeld.1,pw_cell_below G hHeld.2.1,pw_cell_below G hHeld.2.2.1,pw_cell_below G hHeld.2.2.2.1,pw_cell_below G hHeld.2.2.2.2⟩ (fun hHeld=>?_);clear hK K;refine znm (some 52) ?_;refine zpu 11 (some 41) (mB 17 20479) ?_;refine zpu 12 (some 53) (mB 17 24575) ?_;refine zpu 13 (some 54) (mB 17 32767) ?_;exact norm_ zm (hCont _ _ ⟨⟨below_step (below_alloc (Below.refl _ _) _) G,Nat.le_refl _,(G.block _ (lt_of_get (blk_new _ _))).trans (blk_new _ _)⟩⟩)
   rintro bo w6 HF;have hbo:w6.cell? ⟨bo,0,none⟩=some (.int .u8 0):=(blk_cell HF.out.2.2 0).trans rfl;have hfo:w6.frozen? ⟨bo,0,none⟩=false:=blk_frozen HF.out.2.2 0;have hHeld:w6.cell? ⟨w.heap.size,0,none⟩=some (.pointer (some ⟨R,0,none⟩))/\w6.cell? ⟨R,0,none⟩=some (.slice (some ⟨g,0,none⟩) M.length cl)/\w6.cell? ⟨bi,0,none⟩=some (.int .i64 i)/\w6.cell? ⟨g,i,none⟩=some (.slice (some ad) cols ci)/\w6.cell? (ad.add j)=some (.int .u8 x):=by
    obtain⟨h1,h2,h3,h4,h5⟩:=hHeld;exact⟨pw_cell_below HF.out.1 h1,pw_cell_below HF.out.1 h2,pw_cell_below HF.out.1 h3,pw_cell_below HF.out.1 h4,pw_cell_below HF.out.1 h5⟩
   refine znq ?_;refine zln 15 (none) (mB 17 65535) fun K hK=>?_;refine zsk ?_;refine hK.out _ _ ?_;clear hK K;refine zpu 16 (some 11) (mB 17 131071) ?_;refine done_ zc ?_;clear hHeld hbo hfo;have aq:Below w4.heap.size w4 (w6.setCell ⟨bo,0,none⟩ (.int .u8 (invT x))):=HF.out.1.setCell HF.out.2.1 _;have Y:=aK (aa.out.below aq);have am:(w6.setCell ⟨bo,0,none⟩ (.int .u8 (invT x))).cell? ⟨bo,0,none⟩=some (.int .u8 (invT x)):=World.cell?_setCell_same' _ _ _ (by rw[(blk_cell HF.out.2.2 0).trans rfl];rfl);have al:(w6.setCell ⟨bo,0,none⟩ (.int .u8 (invT x))).cell? ⟨bi,0,none⟩=some (.int .i64 i):=(aq.cell (p:=⟨bi,0,none⟩) (lt_of_get U)).trans ((blk_cell U 0).trans rfl);have a3:=HF.out.2.1;have a4:=aa.out.chg.size;have h4o:=aa.out.old;clear HF aq hbi ak U hri hx z1 z2 z3;generalize w6.setCell ⟨bo,0,none⟩ (.int .u8 (invT x))=w7 at*
   go_wp2_with fail
   have a8:=Y.out.n1;refine(gauss_both.swap w.heap.size R g d cl cd bt bi bo (some ⟨g,0,none⟩) Ad s.1.1 s.1.2 cols wd s.2.length i (invT x) w7 Y.out.hold ab.out Y.out.cb0 Y.out.cbt al am HINV.out.2 (by have:=ai.out;omega) k4 za za).mono ?_;rintro e w8 ⟨⟨v,rfl⟩,hq⟩;have af:=aK (Y.out.both hg hd hq.out.1 hq.out.2);have az:=aK (ab.out.swap (o:=invT x) (top:=s.2.length) (i:=i) (by have:=ai.out;omega) k4);have ah:=aK (show(swapS (invT x) s.1.1 s.2.length i).length=M.length by rw[<-ai.out];simp[swapS]);clear hq Y al am aa O I;generalize swapS (invT x) s.1.1 s.2.length i=M8 at*;generalize swapS (invT x) s.1.2 s.2.length i=D8 at*;have z1:=af.out.cb0;have z2:w8.cell? ⟨R,0,none⟩=some (.slice (some ⟨g,0,none⟩) M.length cl):=by rw[<-ah.out];exact af.out.hold.head
   go_wp2_with fail
   clear z1 z2
   go_loopg [63] M.length (fun kq a1 wr=> ∃(k:Nat),a1= .int .i64 k/\k<=M.length/\Aside0 (kq+k=M.length)/\Aside0 (RG w R g d cl cd w.heap.size bt (some ⟨g,0,none⟩) Ad (elimTo j s.2.length k (M8,D8)).1 (elimTo j s.2.length k (M8,D8)).2 cols s.2.length (s.2++ [(j:Int)]) v3' wr))
   case atStart=>exact⟨0,rfl,Nat.zero_le _,⟨rfl⟩,af⟩
   case round=>
    obtain⟨k,rfl,hkM,ap,HGI⟩:=hrel;clear af;obtain⟨au,av⟩:=elim_shp (col:=j) az.out (by rw[ah.out];exact hlt:s.2.length<_) k (by rw[ah.out];exact hkM);have HSE:=aK au;have HLE:=aK (av.trans ah.out);have HEX:=aK (show elimTo j s.2.length (k+1) (M8,D8)=(let t:=elimTo j s.2.length k (M8,D8);if k≠s.2.length/\entry t.1 k j≠0 then(macS t.1 k s.2.length (entry t.1 k j),macS t.2 k s.2.length (entry t.1 k j))else t)from rfl);clear au av;by_cases hkl:k<M.length
    case neg=>
     obtain rfl:k=M.length:=by omega
     have z1:=HGI.out.cbt;have z2:=HGI.out.fbt
     go_wp2_with fail
     go_roundg (M.length-(s.2.length+1))
     case measure=>have:=HK.out;omega
     case rel=>
      refine⟨j+1,wr.heap.size,rfl,by go_num,by omega,⟨?_⟩,⟨?_⟩⟩
      ·rw[HHIT.out];simp;omega
      ·have hN:=HGI.out.next (s.2.length+1);rw[show((s.2.length+1:Nat):Int)=(s.2.length:Int)+1 from by omega]at hN
       rw[HHIT.out];simp only[List.length_append,List.length_cons,List.length_nil,Nat.zero_add];rw[HST.out,ai.out];exact hN
    have a5:decide ((k:Int)<(M.length:Int))=true:=by simpa using hkl
    go_wp2_with fail
    have HGK:=aK (HGI.out.below (below_alloc (Below.refl _ _) (.cells #[.int .i64 k] 3)));have hbk:=blk_new wr (.cells #[.int .i64 k] 3);have hbkw:w.heap.size<=wr.heap.size:=HGI.out.chg.size;have hold:=HGI.out.old;clear HGI;generalize wr.alloc (.cells #[.int .i64 k] 3)=wa at*;generalize wr.heap.size=bk at*;generalize elimTo j s.2.length k (M8,D8)=t at*;obtain⟨vk,hrk,hvk⟩:=HGK.out.hold.L.row k zak;obtain⟨Ak,ck,rfl,hlk,hCk,_⟩:=hvk.out;have hek:=HSE.out.eM k zak;obtain⟨adk,eAk,an⟩:=Kd.at_int hCk (j:Int) za (by rw[hek];omega);subst eAk;rw[hek]at hrk
    have hxk:wa.cell? (adk.add j)=some (.int .u8 (entry t.1 k j)):=by
     rw[show entry t.1 k j=rd (t.1.getD k []) (j:Int)from by simp[entry,rd]];simpa using an
    have hcb:=entry_byte HSE.out (i:=k) (j:=j) zak k1;clear an hCk hvk;generalize entry t.1 k j=c at*;have z1:=HGK.out.cb0;have z2:wa.cell? ⟨R,0,none⟩=some (.slice (some ⟨g,0,none⟩) M.length cl):=by rw[<-HLE.out];exact HGK.out.hold.head
    have z3:wa.cell? ⟨bk,0,none⟩=some (.int .i64 k):=(blk_cell hbk 0).trans rfl;refine start_ (n:=12) (S:=fun w'=>w'.cell? ⟨w.heap.size,0,none⟩=some (.pointer (some ⟨R,0,none⟩))/\w'.cell? ⟨R,0,none⟩=some (.slice (some ⟨g,0,none⟩) M.length cl)/\w'.cell? ⟨bk,0,none⟩=some (.int .i64 k)/\w'.cell? ⟨g,k,none⟩=some (.slice (some adk) cols ck)/\w'.cell? (adk.add j)=some (.int .u8 c)) (ds:= [11]) (mB 12 0) zc rfl rfl ⟨z1,z2,z3,hrk,hxk⟩ (fun hHeld=>?_);have ag:=aK HGK.out.drew;have X:wa.drew.heap[bk]? =some (.cells #[.int .i64 k] 3):=hbk;generalize wa.drew=w9 at ag X hHeld⊢;refine zpu 7 (some 73) (mB 12 128) ?_;refine ztk5 0 (some 66) (mB 12 129) hHeld ?_;refine zpu 1 (some 67) (mB 12 131) ?_;refine zpu 2 (some 68) (mB 12 135) ?_;refine ztk5 3 (some 69) (mB 12 143) hHeld ?_;refine ztk5 4 (some 70) (mB 12 159) hHeld ?_;refine zpu 5 (some 71) (mB 12 191) ?_;refine ztk5 6 (some 72) (mB 12 255) hHeld ?_;refine zpu 8 (some 74) (mB 12 511) ?_;refine ztk5 9 (some 75) (mB 12 1023) hHeld ?_;refine zon 10 (some 13) (mB 12 2047) fun K hK=>?_;refine value_ (w1:=?_) (v:=?_) ze rfl ?_ ?_;rotate_left 2
    ·go_simp;constructor
     ·rfl
     ·rfl
    refine hK.out _ _ ⟨pw_cell_below (below_alloc (Below.refl _ _) _) hHeld.1,pw_cell_below (below_alloc (Below.refl _ _) _) hHeld.2.1,pw_cell_below (below_alloc (Below.refl _ _) _) hHeld.2.2.1,pw_cell_below (below_alloc (Below.refl _ _) _) hHeld.2.2.2.1,pw_cell_below (below_alloc (Below.refl _ _) _) hHeld.2.2.2.2⟩ (fun hHeld=>?_);clear hK K;refine znm (some 13) ?_;refine zln 11 (none) (mB 12 4095) fun K hK=>?_;refine zsk ?_;refine hK.out _ _ ?_;clear hK K;refine done_ zc ?_;have hHb:=below_alloc (Below.refl w9.heap.size w9) (.cells #[.int .u8 c] 5);have J:=aK (ag.out.below hHb);have ae:(w9.alloc (.cells #[.int .u8 c] 5)).cell? ⟨bk,0,none⟩=some (.int .i64 k):=(blk_cell ((hHb.block bk (lt_of_get X)).trans X) 0).trans rfl;have ac:(w9.alloc (.cells #[.int .u8 c] 5)).cell? ⟨w9.heap.size,0,none⟩=some (.int .u8 c):=(blk_cell (blk_new w9 _) 0).trans rfl;have hbcw:w.heap.size<=w9.heap.size:=ag.out.chg.size;have z4:=J.out.cbt;have n1:=J.out.n1;clear hHeld X ag HGK hbk hHb hrk hxk z1 z2 z3;generalize w9.alloc (.cells #[.int .u8 c] 5)=a2 at*;generalize w9.heap.size=bc at*;by_cases hkt:k=s.2.length
    ·have t1:((k:Int)!=(s.2.length:Int))=false:=bne_eq_false_iff_eq.mpr za;have e:=aK (HEX.out.trans (if_neg (fun h=>h.1 hkt)));have HKT:=aK hkt;clear hkt
     go_wp2_with fail
     go_roundg (M.length-(k+1))
     case measure=>have:=ap.out;omega
     case rel=>exact⟨k+1,by go_num,by omega,⟨by omega⟩,⟨by rw[e.out];exact J.out⟩⟩
    have t1:((k:Int)!=(s.2.length:Int))=true:=bne_iff_ne.mpr za;by_cases Z:c=0
    ·have t2:(c !=0)=false:=bne_eq_false_iff_eq.mpr Z;have e:=aK (HEX.out.trans (if_neg (fun h=>h.2 Z)));clear Z
     go_wp2_with fail
     go_roundg (M.length-(k+1))
     case measure=>have:=ap.out;omega
     case rel=>exact⟨k+1,by go_num,by omega,⟨by omega⟩,⟨by rw[e.out];exact J.out⟩⟩
    have t2:(c !=0)=true:=bne_iff_ne.mpr Z;have e:=aK (HEX.out.trans (if_pos ⟨hkt,Z⟩));clear Z
    go_wp2_with fail
    refine(gauss_both.mac w.heap.size R g d cl cd bk bc bt (some ⟨g,0,none⟩) Ad t.1 t.2 cols wd k s.2.length c a2 J.out.hold HSE.out J.out.cb0 ae ac J.out.cbt hcb (by have:=HLE.out;omega) (by have:=HLE.out;omega) za).mono ?_;rintro e bd ⟨⟨v,rfl⟩,hq⟩;have ar:=aK (J.out.both hg hd hq.out.1 hq.out.2);clear hq J ae ac z4
    go_wp2_with fail
    go_roundg (M.length-(k+1))
    case measure=>have:=ap.out;omega
    case rel=>exact⟨k+1,by go_num,by omega,⟨by omega⟩,⟨by rw[e.out];exact ar.out⟩⟩
theorem C_none{w:World}{n:Nat}{l:List Int}(h:Kd.C (Kd.int .u8) w none n l):l= []:=by
 have h1:=Kd.reads_of_C (enc:=Value.int .u8) (d:=(0:Int)) (h1:=fun _=>rfl) h;rcases Nat.eq_zero_or_pos n with hn|hn
 ·have:=h1.1;rw[hn]at this
  exact List.length_eq_zero_iff.1 this
 ·obtain⟨ad,ha,_⟩:=h1.2.2 hn
  cases ha
theorem bytes_Clone.calls(A:Option Addr)(c:Nat)(l:List Int)(w:World)(hr:Kd.C (Kd.int .u8) w A l.length l)(hc:l.length<=c)(hn:l.length<=1000000):
 Calls Tryd.prog 105 #[.slice A l.length c] w fun e w'=> ∃v:Value,e= .returned v/\Aside0 (Kd.R (Kd.int .u8) 5 w' w.heap.size (fun _=>True) v l/\Below w.heap.size w w'):=by
 have hq:=fun(w:World) (a:Option Addr) (n c n' c':Nat)=>Lib.run_eql_slice_nil (P:=Tryd.prog) w 22 5 a n c n' c' Tryd.underlying22
 cases A with
 |none=>
  obtain rfl:=C_none hr;clear hr
  go_enter Tryd.func105,Tryd.ntmps105
  go_wp2
  go_ret
  exact⟨_,rfl,⟨R_nil _ _ _ _ _,Below.refl _ _⟩⟩
 |some ad=>
  have HR:=aK hr;clear hr
  go_enter Tryd.func105,Tryd.ntmps105
  go_wp2_with (first|((with_reducible refine gate_dst (N:=5) rfl ?_);refine Kd.R_lit (Kd.int .u8) _ 5 ?hg (N:=5) ?hd (xs:=([]:List Int)) (inner:= []) (ok:=fun _=>True) (okp:=fun _=>True) ?hr ?hp (fun _ hk=>hk) trivial (Below.refl _ _) (Nat.le_refl _) zd ?_;(case hd=>rfl);(case hg=>rfl);(case hr=>first|(go_simp;done)|(go_simp;rfl));(case hp=>exact(Reps.none _ _));intro v1 w1 I G hg_ hnew_;clear hg_ hnew_;have J:=aK I;have D:=aK G;clear I G)|((with_reducible refine gate_builtin (b:= .append) (xs:= #[.tmp 5,.tmp 6]) rfl ?_);at_builtin;refine Kd.R_append_rows (Kd.int .u8) (w0:=w) w.heap.size rfl (.tmp 5) (.tmp 6) 22 5 (.int .u8 0) 1 rfl Tryd.underlying22 info5 rfl zb za v1 ([]:List Int) l _ _ _ (fun _=>True) (fun _=>False) rfl rfl ?aO ?aR (fun _ _ h=>h) (fun _ h=>h.elim) ?aF ?aB ?aS ?aL ?_;(case aR=>exact C_below HR.out D.out);(case aB=>exact D.out);(case aF=>exact(fun _ _=>trivial));(case aO=>exact J.out);(case aS=>exact D.out.size);(case aL=>simp;omega);intro v2 w2 ho hb hg hat;rw[List.nil_append]at ho;have HO:=aK ho;have HB:=aK hb;clear ho hb hg hat))
  go_ret
  exact⟨_,rfl,⟨HO.out,HB.out⟩⟩
def SlK:Kd (Option Addr×Nat×Nat):=Kd.scalar (fun p=>Value.slice p.1 p.2.1 p.2.2) (fun _=>rfl)
theorem sl_info:(Tryd.prog.info? 22).map (fun i=>(i.zero,i.size,i.bytes))=some (some (.slice none 0 0),1,24):=by kernel_rfl
theorem lst_of_R{w:World}{base:Nat}{ok:Nat->Prop}{A:Option Addr}{n c:Nat}{ps:List (Option Addr×Nat×Nat)}{M:List (List Int)}(h:SlK.R 22 w base ok (.slice A n c) ps)(hl:M.length=ps.length)(g0:Nat)
 (hr: ∀i,i<M.length->RowV w (Value.slice (ps.getD i (none,0,0)).1 (ps.getD i (none,0,0)).2.1 (ps.getD i (none,0,0)).2.2) (M.getD i [])): ∃g,(0<M.length->A=some ⟨g,0,none⟩/\base<=g/\ok g)/\(M.length=0->g=g0)/\Lst w g M/\n=M.length:=by
 obtain⟨hn,hc,hC⟩:=R_reads' h;rcases Nat.eq_zero_or_pos M.length with h0|h0
 ·exact⟨g0,fun e=>by omega,fun _=>rfl,⟨fun e=>by omega,fun i hi=>by omega,fun i hi=>by omega⟩,by omega⟩
 ·obtain⟨inner,ho⟩:=R_own h;have hbd:=h.1;rcases ho.2 with⟨h',hx⟩|⟨g',cap',cur,h',D,hh,hcur⟩
  ·injection h' with _ h2 _;omega
  ·injection h' with h1 h2 h3;subst h1;have h1:=Kd.reads_of_C (enc:=fun p:Option Addr×Nat×Nat=>Value.slice p.1 p.2.1 p.2.2) (d:=(none,0,0)) (h1:=fun _=>rfl) hC;refine⟨g',fun _=>⟨rfl,D,hbd g' zac⟩,fun e=>by omega,⟨fun _=>⟨_,hh⟩,fun i hi=>⟨_,?_,hr i hi⟩,fun i hi=>?_⟩,by omega⟩
   ·obtain⟨ad,ha,hcell⟩:=h1.2.2 za
    cases ha
    have:=hcell i za;rw[<-this];unfold Addr.add;by_cases e:i=0
    case neg=>simp[e]
    subst e;rfl
   ·simp[World.frozen?,hh]
theorem RowV.piece{w:World}{A:Option Addr}{n c:Nat}{l:List Int}(h:RowV w (.slice A n c) l)(lo len:Nat)(hle:lo+len<=l.length):RowV w (.slice (if len=0 then A else A.map (·.add lo)) len len) ((l.drop lo).take len):=by
 obtain⟨A',c',e,h2,h3,h4⟩:=h.out;injection e with e1 e2 e3;subst e1 e2 e3;have hlen:((l.drop lo).take len).length=len:=by simp;omega
 have h1:=Kd.reads_of_C (enc:=Value.int .u8) (d:=(0:Int)) (h1:=fun _=>rfl) h3;refine⟨_,len,by rw[hlen],by omega,C_of_reads (d:=(0:Int)) ⟨rfl,by rw[hlen];have:=h1.2.1;omega,fun hn=>?_⟩,fun ad ha=>?_⟩
 ·rw[hlen]at hn
  obtain⟨ad,ha,hcell⟩:=h1.2.2 za;refine⟨ad.add lo,by rw[if_neg za,ha];rfl,fun j hj=>?_⟩;rw[hlen]at hj
  have:=hcell (lo+j) za;rw[show(ad.add lo).add j=ad.add (lo+j)from by unfold Addr.add;by_cases a:lo=0<;>by_cases b:j=0<;>simp[a,b];all_goals omega];rw[this]
  congr 2
  rw[List.getD_eq_getElem?_getD,List.getD_eq_getElem?_getD,List.getElem?_take_of_lt za,List.getElem?_drop]
 ·by_cases e:len=0
  ·rw[if_pos e]at ha
   exact h4 ad ha
  rw[if_neg e]at ha
  obtain⟨D,G,rfl⟩:=Option.map_eq_some_iff.1 ha;have hb:(D.add lo).block=D.block:=by unfold Addr.add;split<;>rfl
  rw[hb];exact h4 D G
def rowsOf(cols rows:Nat)(l:List Int):List (List Int):=(List.range rows).map fun i=>(l.drop (i*cols)).take cols
def pieces(A:Option Addr)(cols k:Nat):List (Option Addr×Nat×Nat):=(List.range k).map fun i=>(if cols=0 then A else A.map (·.add (i*cols)),cols,cols)
theorem pieces_succ(A:Option Addr)(cols k:Nat):pieces A cols (k+1)=pieces A cols k++ [(if cols=0 then A else A.map (·.add (k*cols)),cols,cols)]:=by simp[pieces,List.range_succ]
theorem own_addr{α:Type}{D:Kd α}{e:Nat}{w:World}{base:Nat}{ok:Nat->Prop}{A:Option Addr}{n c b:Nat}{xs:List α}(h:D.R e w base ok (.slice A n c) xs)(hb:(Value.slice A n c).ownBlock=some b):A=some ⟨b,0,none⟩/\ ∃cells:Array Value,w.heap[b]? =some (.cells cells e (0,0)):=by
 obtain⟨inner,ho⟩:=R_own h;rcases ho.2 with⟨h',hx⟩|⟨g',cap',cur,h',G,hh,hcur⟩
 ·injection h' with h1 _ _;subst h1
  cases hb
 ·injection h' with h1 h2 h3;subst h1;simp[Value.ownBlock]at hb
  subst hb;exact⟨rfl,_,hh⟩
theorem wrap_small{n:Int}(h0:0<=n)(h1:n<=1000000000):wrap64 n=n:=by unfold wrap64;omega
theorem iwrap_small{n:Int}(h0:0<=n)(h1:n<=1000000000):IntKind.i64.wrap n=n:=by rw[i64_w,wrap_small h0 h1]
structure OfS (w:World) (bm R d rows cols cd c i:Nat) (A Ad:Option Addr) (vl:Value) (l:List Int) (cdd:Nat) (wr:World):Prop where
 hm:wr.heap[bm]? =some (.cells #[.int .i64 rows,.int .i64 cols,.slice A l.length c] 24 (0,0))
 hR:wr.heap[R]? =some (.cells #[vl,.slice (some ⟨d,0,none⟩) rows cd,.int .i64 cols] 126 (0,0))
 hl:SlK.R 22 wr w.heap.size (fun k=>k≠R/\k≠bm/\k≠d) vl (pieces Ad cols i)
 hd:SlK.R 22 wr w.heap.size (fun k=>k=d) (.slice (some ⟨d,0,none⟩) rows cd) (List.replicate rows (none,0,0))
 data:RowV wr (.slice Ad l.length cdd) l
 below:Below w.heap.size w wr
 n1:w.heap.size<=R
 n2:w.heap.size<=bm
 n3:w.heap.size<=d
theorem OfS.next{w:World}{bm R d rows cols cd c i:Nat}{A Ad:Option Addr}{vl:Value}{l:List Int}{cdd:Nat}{wr w1:World}(h:OfS w bm R d rows cols cd c i A Ad vl l cdd wr)(hb:Below wr.heap.size wr w1):OfS w bm R d rows cols cd c i A Ad vl l cdd w1:=
 ⟨(hb.block bm (lt_of_get h.hm)).trans h.hm,(hb.block R (lt_of_get h.hR)).trans h.hR,R_below h.hl hb,R_below h.hd hb,h.data.keep (KeepB.below hb),below_step h.below hb,h.n1,h.n2,h.n3⟩
theorem OfS.app{w:World}{bm R d rows cols cd c i:Nat}{A Ad:Option Addr}{vl v1:Value}{l:List Int}{cdd:Nat}{wr w1:World}(h:OfS w bm R d rows cols cd c i A Ad vl l cdd wr)(hg:wr.grownBy w1 vl.ownBlock)(hb:Below w.heap.size wr w1)(ho:SlK.R 22 w1 w.heap.size (fun k=>k≠R/\k≠bm/\k≠d) v1 (pieces Ad cols (i+1))):
 OfS w bm R d rows cols cd c (i+1) A Ad v1 l cdd (w1.setCell ⟨R,0,none⟩ v1):=by
 have hv: ∀k,vl.ownBlock=some k->k≠R/\k≠bm/\k≠d:=fun k hk=>h.hl.1 k hk;have hty: ∀k,vl.ownBlock=some k-> ∃cells:Array Value,wr.heap[k]? =some (.cells cells 22 (0,0)):=fun k hk=>by
  obtain⟨h1,h2,_,q,hq,c,hc⟩:=(R_bound h.hl).1 k hk;have:q=22:=(List.mem_cons.1 hq).elim id (fun hx=>by cases hx);rw[<-this];exact⟨c,hc⟩
 have blk: ∀b,b<wr.heap.size->(∀k,vl.ownBlock=some k->b≠k)->w1.heap[b]? =wr.heap[b]? :=fun b hb hne=>hg.block b hb (by
  cases D:vl.ownBlock with
  |none=>simp
  |some k=>simpa using hne k D)
 have e1:=(blk bm (lt_of_get h.hm) (fun k hk e=>(hv k hk).2.1 e.symm)).trans h.hm;have e2:=(blk R (lt_of_get h.hR) (fun k hk e=>(hv k hk).1 e.symm)).trans h.hR;have kb:KeepB wr w1:=fun b cells hbb=>blk b (lt_of_get hbb) (fun k hk e=>by
  obtain⟨c,hc⟩:=hty k hk;subst e;rw[hbb]at hc
  injection hc with hc;injection hc with _ hc;exact absurd hc zb)
 have G:KeepB w1 (w1.setCell ⟨R,0,none⟩ v1):=KeepB.grown (grown_set w1 R 0 v1) e2 zb;have n1:=h.n1;refine⟨?_,?_,R_far ho (fun k hk=>hk.1) v1,?_,(h.data.keep kb).keep G,(Below.trans h.below (hb)).setCell n1 _,h.n1,h.n2,h.n3⟩
 ·rw[Below.heap_setCell _ _ _ bm (by rintro rfl;rw[e1]at e2;injection e2 with e2;injection e2 with _ e2;exact absurd e2 zb)];exact e1
 ·exact blk_put e2 0 v1 rfl
 ·have hdR:d≠R:=by
   rintro rfl;obtain⟨q,hq,cc,hcc⟩:=((R_bound h.hd).1 d zac).2.2.2;have:q=22:=(List.mem_cons.1 hq).elim id (fun hx=>by cases hx);subst this;rw[h.hR]at hcc
   injection hcc with hcc;injection hcc with _ hcc;exact absurd hcc zb
  refine R_far (Kd.R_step h.hd (fun k hk hlt=>blk k hlt (fun k' hk' e=>?_))) (fun k hk=>by rw[hk];exact hdR) v1;subst e;exact(hv k hk').2.2 hk
theorem rowsOf_length(cols rows:Nat)(l:List Int):(rowsOf cols rows l).length=rows:=by simp[rowsOf]
theorem rowsOf_get{cols rows:Nat}{l:List Int}{i:Nat}(hi:i<rows):(rowsOf cols rows l).getD i [] =(l.drop (i*cols)).take cols:=by
 unfold rowsOf;rw[List.getD_eq_getElem?_getD,List.getElem?_map,List.getElem?_range hi];rfl
theorem OfS.hold{w:World}{bm R d rows cols cd c:Nat}{A Ad:Option Addr}{vl:Value}{l:List Int}{cdd:Nat}{wr:World}(h:OfS w bm R d rows cols cd c rows A Ad vl l cdd wr)(hl:l.length=rows*cols):
 ∃g cl Al,Hold wr R g d cl cd Al (some ⟨d,0,none⟩) (rowsOf cols rows l) (List.replicate rows []) cols/\w.heap.size<=g/\g<wr.heap.size/\d<wr.heap.size/\rows<=cl/\rows<=cd:=by
 obtain⟨Al,cl,ev⟩:=R_slice h.hl;subst ev;have hpl:(pieces Ad cols rows).length=rows:=by simp[pieces]
 obtain⟨g,g1,g2,g3,g4⟩:=lst_of_R (M:=rowsOf cols rows l) h.hl (by rw[hpl,rowsOf_length]) bm (fun i hi=>by
  rw[rowsOf_length]at hi
  rw[rowsOf_get hi];have hle:i*cols+cols<=l.length:=by rw[hl,<-Nat.succ_mul];exact Nat.mul_le_mul_right _ hi
  have:=h.data.piece (i*cols) cols hle;have e:(pieces Ad cols rows).getD i (none,0,0)=(if cols=0 then Ad else Ad.map (·.add (i*cols)),cols,cols):=by
   unfold pieces;rw[List.getD_eq_getElem?_getD,List.getElem?_map,List.getElem?_range hi];rfl
  rw[e];exact this)
 obtain⟨q,q1,q2,q3,q4⟩:=lst_of_R (M:=List.replicate rows []) h.hd zd d (fun i hi=>by
  rw[List.length_replicate]at hi
  have e:(List.replicate rows ((none:Option Addr),0,0)).getD i (none,0,0)=(none,0,0):=by
   rw[List.getD_eq_getElem?_getD,List.getElem?_replicate_of_lt hi];rfl
  have e2:(List.replicate rows ([]:List Int)).getD i [] = []:=by
   rw[List.getD_eq_getElem?_getD,List.getElem?_replicate_of_lt hi];rfl
  rw[e,e2];exact RowV.nil _)
 obtain⟨d1,d2,d3,qq,dq,dc,dcc⟩:=(R_bound h.hd).1 d zac;obtain rfl:qq=22:=(List.mem_cons.1 dq).elim id (fun hx=>by cases hx);have hqd:q=d:=by
  rcases Nat.eq_zero_or_pos rows with h0|h0
  ·exact q2 (by simp[h0])
  ·have:=(q1 (by simpa using h0)).1;injection this with this;injection this with this;exact this.symm
 subst hqd;have hne: ∀(a b ta tb:Nat) (ca cb:Array Value),wr.heap[a]? =some (.cells ca ta (0,0))->wr.heap[b]? =some (.cells cb tb (0,0))->ta≠tb->a≠b:=fun a b ta tb ca cb h1 h2 hn e=>by
  subst e;rw[h1]at h2
  injection h2 with h2;injection h2 with _ h2;exact hn h2
 have hg:g≠q/\R≠g/\w.heap.size<=g/\g<wr.heap.size:=by
  rcases Nat.eq_zero_or_pos rows with h0|h0
  ·rw[g2 zaj];exact⟨hne _ _ _ _ _ _ h.hm dcc zb,hne _ _ _ _ _ _ h.hR h.hm zb,h.n2,lt_of_get h.hm⟩
  ·obtain⟨_,k2,k3⟩:=g1 zaj;exact⟨k3.2.2,fun e=>k3.1 e.symm,k2,g3.lt zaj⟩
 refine⟨g,cl,Al,⟨?_,?_,(blk_cell h.hR 2).trans rfl,fun h0=>(g1 h0).1,fun _=>rfl,g3,q3,hg.1,hg.2.1,hne _ _ _ _ _ _ h.hR dcc zb⟩,hg.2.2.1,hg.2.2.2,d3,by have:=(R_reads' h.hl).2.1;omega,(R_reads' h.hd).2.1⟩
 ·rw[rowsOf_length];have:=(blk_cell h.hR 0).trans rfl;rw[hpl]at this
  exact this
 ·rw[List.length_replicate];exact(blk_cell h.hR 1).trans rfl
theorem gauss_of.calls(rows cols:Nat)(A:Option Addr)(c:Nat)(l:List Int)(w:World)(hr:Kd.C (Kd.int .u8) w A l.length l)(hc:l.length<=c)(hl:l.length=rows*cols)(Y:rows<=64/\cols<=64):
 Calls Tryd.prog 92 #[.agg #[.int .i64 rows,.int .i64 cols,.slice A l.length c]] w fun e w'=> ∃R,e= .returned (.pointer (some ⟨R,0,none⟩))/\
  Aside0 (∃g d cl cd Al Ad,Hold w' R g d cl cd Al Ad (rowsOf cols rows l) (List.replicate rows []) cols/\Below w.heap.size w w'/\w.heap.size<=g/\w.heap.size<=d/\w.heap.size<=R/\g<w'.heap.size/\d<w'.heap.size/\rows<=cl/\rows<=cd/\ ∃cells:Array Value,w'.heap[R]? =some (.cells cells 126 (0,0))):=by
 have hll:l.length<=4096:=by rw[hl];exact Nat.mul_le_mul Y.1 Y.2
 have HR:=aK hr;have HL:=aK hl;obtain⟨h64a,h64b⟩:=Y;clear hr hl
 go_enter Tryd.func92,Tryd.ntmps92
 go_wp2_with fail
 refine start_ (n:=8) (S:=fun w'=>w'.cell? ⟨w.heap.size,0,none⟩=some (.int .i64 rows)/\w'.cell? ⟨w.heap.size,1,none⟩=some (.int .i64 cols)) (ds:= []) (mB 8 0) zc rfl rfl ⟨(blk_cell (blk_new w (.cells #[.int .i64 rows,.int .i64 cols,.slice A l.length c] 24)) 0).trans rfl,(blk_cell (blk_new w (.cells #[.int .i64 rows,.int .i64 cols,.slice A l.length c] 24)) 1).trans rfl⟩ (fun hHeld=>?_);have hm:=blk_new w (.cells #[.int .i64 rows,.int .i64 cols,.slice A l.length c] 24);have al:=below_drew (below_alloc (Below.refl w.heap.size w) (.cells #[.int .i64 rows,.int .i64 cols,.slice A l.length c] 24));have af:(w.alloc (.cells #[.int .i64 rows,.int .i64 cols,.slice A l.length c] 24)).drew.heap[w.heap.size]? =some (.cells #[.int .i64 rows,.int .i64 cols,.slice A l.length c] 24):=hm;have O:(w.alloc (.cells #[.int .i64 rows,.int .i64 cols,.slice A l.length c] 24)).drew.heap.size=w.heap.size+1:=by simp
 clear hm;generalize(w.alloc (.cells #[.int .i64 rows,.int .i64 cols,.slice A l.length c] 24)).drew=w1 at*;have ar:=aK O;clear O;refine zpu 0 (some 8) (mB 8 1) ?_;refine zpu 2 (some 10) (mB 8 5) ?_;refine ztk2 1 (some 9) (mB 8 7) hHeld ?_;refine ztk2 3 (some 11) (mB 8 15) hHeld ?_;refine zon 4 (some 12) (mB 8 31) fun K hK=>?_;refine Kd.R_make_step SlK w1.heap.size 22 ze (N:=12) rfl 114 _ _ rfl (rows:Int) rfl rfl Tryd.underlying114 (.slice none 0 0) 24 sl_info rfl zb za (none,0,0) (ok:=fun k=>w1.heap.size<=k) (okp:=fun _=>False) rfl (fun _ h=>h.elim) (Nat.le_refl _) za za (Below.refl _ _) (Nat.le_refl _) ?_;intro va w2 ho ab ay hnew;rw[Int.toNat_natCast]at ho
 obtain⟨Av,cd,ev⟩:=R_slice ho;rw[List.length_replicate]at ev
 subst ev;obtain⟨d,ao,a6⟩:=hnew;obtain⟨hAv,hdc⟩:=own_addr ho ao;subst hAv;have HO:=aK (⟨fun k hk=>by simpa[Value.ownBlock]using hk.symm,ho.2⟩:SlK.R 22 w2 w1.heap.size (fun k=>k=d) (.slice (some ⟨d,0,none⟩) rows cd) (List.replicate rows (none,0,0)));have U:=aK ab;clear ho ay ao hdc;refine hK.out _ _ ⟨pw_cell_below ab hHeld.1,pw_cell_below ab hHeld.2⟩ (fun hHeld=>?_);clear hK K;refine znm (some 12) ?_;refine zpu 5 (some 13) (mB 8 63) ?_;refine zon 6 (some 14) (mB 8 127) fun K hK=>?_;refine value_ (w1:=?_) (v:=?_) ze rfl ?_ ?_;rotate_left 2
 ·go_simp;constructor
  ·rfl
  ·rfl
 refine hK.out _ _ ⟨pw_cell_below (below_alloc (Below.refl _ _) _) hHeld.1,pw_cell_below (below_alloc (Below.refl _ _) _) hHeld.2⟩ (fun hHeld=>?_);clear hK K;refine znm (some 14) ?_;refine zpu 7 (some 3) (mB 8 255) ?_;refine done_ zc ?_;clear hHeld;have a7:=U.out.size;have O:=ar.out;have a5:w.heap.size<=w1.heap.size:=by omega
 have ac:Below w1.heap.size w1 (w2.alloc (.cells #[.slice none 0 0,.slice (some ⟨d,0,none⟩) rows cd,.int .i64 cols] 126)):=below_alloc U.out _;have Z:=blk_new w2 (.cells #[.slice none 0 0,.slice (some ⟨d,0,none⟩) rows cd,.int .i64 cols] 126);have ah:=aK (R_lower (R_alloc HO.out (.cells #[.slice none 0 0,.slice (some ⟨d,0,none⟩) rows cd,.int .i64 cols] 126)) (by omega:w.heap.size<=w1.heap.size));have L:=(ac.block _ (lt_of_get af)).trans af;have X:=aK (below_step al ac);clear HO U ac al af O;generalize w2.alloc (.cells #[.slice none 0 0,.slice (some ⟨d,0,none⟩) rows cd,.int .i64 cols] 126)=w3 at*;generalize w2.heap.size=R at*;have z1:w3.cell? ⟨w.heap.size,2,none⟩=some (.slice A l.length c):=(blk_cell L 2).trans rfl
 go_wp2_with fail
 refine(bytes_Clone.calls A c l _ (C_below HR.out X.out) hc za).mono ?_;rintro e w4 ⟨v,rfl,hq⟩;obtain⟨Ad,cdd,ev⟩:=R_slice hq.out.1;subst ev;have I:=hq.out.2;have HOF:Aside0 (OfS w w.heap.size R d rows cols cd c 0 A Ad (.slice none 0 0) l cdd w4):=⟨(I.block _ (lt_of_get L)).trans L,(I.block _ (lt_of_get Z)).trans Z,R_nil _ _ _ _ _,R_below ah.out I,RowV.of_R hq.out.1,below_step X.out I,by omega,Nat.le_refl _,by omega⟩
 clear hq I z1 L Z ah X;have z1:w4.cell? ⟨w.heap.size,0,none⟩=some (.int .i64 rows):=(blk_cell HOF.out.hm 0).trans rfl
 go_wp2_with fail
 clear z1
 go_loopg [20] rows (fun kq az wr=> ∃(i:Nat) (vl:Value),az= .int .i64 i/\i<=rows/\Aside0 (kq+i=rows)/\Aside0 (OfS w w.heap.size R d rows cols cd c i A Ad vl l cdd wr))
 case atStart=>exact⟨0,_,rfl,Nat.zero_le _,⟨rfl⟩,HOF⟩
 case round=>
  obtain⟨i,vl,rfl,hi,HK,HO⟩:=hrel;clear HOF;by_cases hlt:i<rows
  case neg=>
   obtain rfl:i=rows:=by omega
   go_wp2_with fail
   go_ret
   obtain⟨g,cl,Al,h1,h2,h3,h4,h5,h6⟩:=HO.out.hold HL.out;exact⟨R,rfl,⟨g,d,cl,cd,Al,_,h1,HO.out.below,h2,HO.out.n3,HO.out.n1,h3,h4,h5,h6,_,HO.out.hR⟩⟩
  have tst:decide ((i:Int)<(rows:Int))=true:=by simpa using hlt
  go_wp2_with fail
  obtain⟨f,hf⟩: ∃f:Nat,f=i*cols:=⟨_,rfl⟩
  obtain⟨f2,J⟩: ∃f2:Nat,f2=(i+1)*cols:=⟨_,rfl⟩
  have hfl:f2<=l.length:=by rw[HL.out,J];exact Nat.mul_le_mul_right _ hlt
  have hff:f2=f+cols:=by rw[J,hf,Nat.add_mul,Nat.one_mul]
  have e1:((i:Int)*(cols:Int))=(f:Int):=by rw[hf];simp
  have e2:(((i:Int)+1)*(cols:Int))=(f2:Int):=by rw[J];simp
  have w1a:IntKind.i64.wrap ((i:Int)*(cols:Int))=(f:Int):=by rw[e1];exact iwrap_small za za
  have w2a:IntKind.i64.wrap (((i:Int)+1)*(cols:Int))=(f2:Int):=by rw[e2];exact iwrap_small za za
  have w1b:wrap64 ((i:Int)*(cols:Int))=(f:Int):=by rw[e1];exact wrap_small za za
  have w2b:wrap64 (((i:Int)+1)*(cols:Int))=(f2:Int):=by rw[e2];exact wrap_small za za
  have w3a:IntKind.i64.wrap ((i:Int)+1)=(i:Int)+1:=iwrap_small za za;have HF:=aK hf;have HFF:=aK hff;clear hf J hff e1 e2;refine start_ (n:=11) (S:=fun w'=>w'.cell? ⟨w.heap.size,1,none⟩=some (.int .i64 cols)) (ds:= []) (mB 11 0) zc rfl rfl ((blk_cell HO.out.hm 1).trans rfl) (fun hHeld=>?_);have G:=aK (HO.out.next (below_drew (Below.refl _ _)));clear HO;generalize wr.drew=w5 at*;refine zpu 0 (some 23) (mB 11 1) ?_;refine zpu 1 (some 24) (mB 11 3) ?_;refine zpu 4 (some 27) (mB 11 19) ?_;refine zpu 5 (some 28) (mB 11 51) ?_;refine zpu 6 (some 29) (mB 11 115) ?_;refine ztk1 2 (some 25) (mB 11 119) hHeld ?_;refine zpu 3 (some 26) (mB 11 127) ?_;refine zpu 9 (some 6) (mB 11 639) ?_;refine ztk1 7 (some 30) (mB 11 767) hHeld ?_;refine zpu 8 (some 31) (mB 11 1023) ?_;refine zpu 10 (some 7) (mB 11 2047) ?_;refine done_ zc ?_;clear hHeld w1a w2a w1b w2b w3a
  go_wp2_with fail
  have hcd:=G.out.data;obtain⟨A',c',ea,hcc,_,_⟩:=hcd.out;injection ea with au av aw;subst au aw;clear av;have hfi:(0:Int)<=(f:Int):=by omega
  have a0:(f:Int)<=(f2:Int):=by have:=HFF.out;omega
  have hf2c:(f2:Int)<=(cdd:Int):=by omega
  have hRc:=(blk_cell G.out.hR 0).trans rfl;have hfz:w5.frozen? ⟨R,0,none⟩=false:=blk_frozen G.out.hR 0;have hown:=G.out.hl;clear hcd;refine start_ (n:=15) (S:=fun w'=>w'.cell? ⟨R,0,none⟩=some vl) (ds:= [14]) (mB 15 0) zc rfl rfl (hRc) (fun hHeld=>?_);have D:=aK (G.out.next (below_drew (Below.refl _ _)));clear G hRc hfz hown;generalize w5.drew=w6 at*;refine zpu 0 (some 32) (mB 15 1) ?_;refine zpu 1 (some 33) (mB 15 3) ?_;refine zpu 2 (some 34) (mB 15 7) ?_;refine zpu 3 (some 35) (mB 15 15) ?_;refine zpu 5 (some 37) (mB 15 47) ?_;refine zpu 6 (some 38) (mB 15 111) ?_;refine zpu 7 (some 39) (mB 15 239) ?_;refine zpu 8 (some 40) (mB 15 495) ?_;refine zpu 9 (some 41) (mB 15 1007) ?_;refine ztk1 4 (some 36) (mB 15 1023) hHeld ?_;refine zon 10 (some 42) (mB 15 2047) fun K hK=>?_;refine value_ (w1:=?_) (v:=?_) ze rfl ?_ ?_;rotate_left 2
  ·go_simp;constructor
   ·rfl
   ·rfl
  refine hK.out _ _ (pw_cell_below (below_alloc (Below.refl _ _) _) hHeld) (fun hHeld=>?_);clear hK K;refine znm (some 42) ?_;refine zon 11 (some 43) (mB 15 4095) fun K hK=>?_;refine Kd.R_append_step SlK (w0:=w6) w.heap.size ze (.tmp 36) (.tmp 42) 114 22 (.slice none 0 0) 24 rfl Tryd.underlying114 sl_info rfl zb za vl (pieces Ad cols i) (if f2=f then Ad else Option.map (fun x=>x.add f) Ad,f2-f,f2-f) [.slice (if f2=f then Ad else Option.map (fun x=>x.add f) Ad) (f2-f) (f2-f)] (fun k=>k≠R/\k≠w.heap.size/\k≠d) (fun _=>False) rfl rfl rfl (fun _ h=>h.elim) ?aF D.out.hl (Below.refl _ _) D.out.below.size ?aL ?_
  ·intro k hk;have a1:=lt_of_get D.out.hR;have a2:=lt_of_get D.out.hm;have a3:=D.out.hd.1;obtain⟨_,_,a4,_⟩:=(R_bound D.out.hd).1 d zac;omega
  ·simp[pieces];omega
  intro v1 w7 ho am ae ak;have hpc:(if f2=f then Ad else Option.map (fun x=>x.add f) Ad,f2-f,f2-f)=(if cols=0 then Ad else Ad.map (·.add (i*cols)),cols,cols):=by
   have h1:=HFF.out;have h2:=HF.out;rw[show f2-f=cols from by omega,<-h2];by_cases h0:cols=0
   case neg=>rw[if_neg h0,if_neg za]
   rw[if_pos h0,if_pos za]
  rw[hpc,<-pieces_succ]at ho
  obtain⟨A1,c1,ax⟩:=R_slice ho;subst ax;have aj:=aK ho;have ag:=aK am;have ai:=aK ae;have aa:w7.heap[R]? =some (.cells #[vl,.slice (some ⟨d,0,none⟩) rows cd,.int .i64 cols] 126):=(ae.block R (lt_of_get D.out.hR) (by
   intro e;have:=D.out.hl.1 R e.symm;exact this.1 rfl)).trans D.out.hR
  have ap:=blk_frozen aa 0;have an:w7.cell? ⟨R,0,none⟩=some vl:=(blk_cell aa 0).trans rfl;clear ho am ae ak hpc aa;refine hK.out _ _ (an) (fun hHeld=>?_);clear hK K;refine znm (some 43) ?_;refine zpu 12 (some 44) (mB 15 8191) ?_;refine zpu 13 (some 45) (mB 15 16383) ?_;refine zln 14 (none) (mB 15 32767) fun K hK=>?_;refine zsk ?_;refine hK.out _ _ ?_;clear hK K;refine done_ zc ?_;clear hHeld;have aq:=aK (D.out.app ai.out ag.out aj.out);clear D ai ag aj an ap
  go_wp2_with fail
  all_goals
   go_roundg (rows-(i+1))
   case measure=>have:=HK.out;omega
   case rel=>exact⟨i+1,_,by go_num,by omega,⟨by omega⟩,aq⟩
def u8of(l:List Int):List UInt8:=l.map fun x=>UInt8.ofNat x.toNat
theorem u8of_get{l:List Int}(h:bytesB l=true){i:Nat}{x:UInt8}(hx:(u8of l)[i]? =some x):i<l.length/\((x.toNat:Nat):Int)=l.getD i 0:=by
 unfold u8of at hx;rw[List.getElem?_map]at hx
 obtain⟨y,hy,rfl⟩:=Option.map_eq_some_iff.1 hx;have hi:=(List.getElem?_eq_some_iff.1 hy).1;have hr:=bytesB_at h hi;rw[List.getD_eq_getElem?_getD,hy]at hr⊢
 refine⟨hi,?_⟩;simp only[Option.getD_some]at hr⊢;rw[UInt8.toNat_ofNat'];omega
theorem u8of_back{l:List Int}(h:bytesB l=true):(u8of l).map (fun x=>((x.toNat:Nat):Int))=l:=by
 apply List.ext_getElem (by simp[u8of]);intro i h1 h2;have hi:i<(u8of l).length:=by simpa[u8of]using h2
 obtain⟨_,e⟩:=u8of_get h (List.getElem?_eq_getElem hi);rw[List.getElem_map,e,List.getD_eq_getElem?_getD,List.getElem?_eq_getElem h2];rfl
theorem holds_of_row{w:World}{v:Value}{l:List Int}(h:RowV w v l)(hb:bytesB l=true):Lib.HoldsBytes w v (u8of l):=by
 obtain⟨A,c,rfl,hc,hC,_⟩:=h.out;have h1:=Kd.reads_of_C (enc:=Value.int .u8) (d:=(0:Int)) (h1:=fun _=>rfl) hC;refine⟨A,c,by simp[u8of],fun e=>?_,fun a ha i x hx=>?_⟩
 ·subst e;rw[C_none hC];rfl
 ·obtain⟨hi,e⟩:=u8of_get hb hx;obtain⟨ad,hA,hcell⟩:=h1.2.2 za;rw[ha]at hA
  cases hA
  rw[hcell i hi,e]
theorem V_of_fresh{w w':World}{v:Value}{l:List UInt8}(h:Lib.FreshBytes w.heap.size w' v l){L:List Int}(hL:l.map (fun x=>((x.toNat:Nat):Int))=L):Kd.V (Kd.int .u8) 5 w' w.heap.size (fun k_=>(w.heap.size<=k_)) v L:=by
 obtain⟨g,cap,zs,rfl,hg,hlc,hcm,hz,hzr,hbo,hcell,hfr⟩:=h;have hlen:L.length=l.length:=by rw[<-hL];simp
 rw[<-hlen]at hlc hbo⊢
 refine Kd.V_mk hlc (fun W' hW=>?_);refine C_of_reads (d:=(0:Int)) ⟨rfl,by unfold maxLen at hcm;omega,fun hn=>⟨⟨g,0,none⟩,rfl,fun j hj=>?_⟩⟩;have h1:=hcell j za;have hgl:=World.block_lt_of_cell? _ _ h1;have he:zs.getD j 0=L.getD j 0:=by
  rw[<-hL,<-hbo];have D:j<(zs.take L.length).length:=by simp;omega
  have hzj:=hzr (zs[j]' za) (List.getElem_mem _);simp only[Lib.bytesOf,List.getD_eq_getElem?_getD,List.getElem?_map,List.getElem?_take_of_lt hj,List.getElem?_eq_getElem (by omega:j<zs.length),Option.map_some,Option.getD_some]
  first
   |(rw[UInt8.toNat_ofNat'];omega)
   |(simp;omega)
 rw[<-he,<-h1];have ha:(⟨g,0,none⟩:Addr).add j=⟨g,j,none⟩:=by unfold Addr.add;by_cases e:j=0<;>simp[e]
 rw[ha];exact cell_same (p:=⟨g,j,none⟩) (hW g hg hgl)
theorem join_flat: ∀ls:List (List UInt8),Lib.join ls [] =ls.flatten
 | []=>rfl
 |x::r=>by
  rw[Lib.join_cons];simp[Lib.joinTail]
theorem lens_le{M:List (List Int)}{n:Nat}(h: ∀i,i<M.length->(M.getD i []).length=n):Lib.lens (M.map u8of)=M.length*n:=by
 unfold Lib.lens;rw[List.map_map];have:M.map ((fun x:List UInt8=>x.length) ∘ u8of)=List.replicate M.length n:=by
  apply List.ext_getElem zd;intro i h1 h2;have hi:i<M.length:=by simpa using h1
  have:=h i hi;rw[List.getD_eq_getElem?_getD,List.getElem?_eq_getElem hi]at this
  simpa[u8of]using this
 rw[this,List.sum_replicate_nat]
theorem bytes_Join.calls(g cl cols:Nat)(Al:Option Addr)(M:List (List Int))(w:World)(hA:0<M.length->Al=some ⟨g,0,none⟩)(hL:Lst w g M)(hB:rowsB M=true)(he: ∀i,i<M.length->(M.getD i []).length=cols)(hs:M.length<=64/\cols<=64)(hcl:M.length<=cl):
 Calls Tryd.prog 116 #[.slice Al M.length cl,.slice none 0 0] w fun e w'=> ∃v,e= .returned v/\Aside0 (Kd.V (Kd.int .u8) 5 w' w.heap.size (fun k_=>(w.heap.size<=k_)) v M.flatten/\Below w.heap.size w w'):=by
 match M,hA,hL,hB,he,hs,hcl with
 | [],hA,hL,hB,he,hs,hcl=>
   refine(Tryd.bytes_Join_none Al cl _ w).mono ?_;rintro e w' ⟨rfl,rfl⟩;refine⟨_,rfl,⟨?_,below_alloc (Below.refl _ _) _⟩⟩;exact Kd.V_mk (xs:= []) (Nat.le_refl _) (fun W' _=>C_of_reads (d:=(0:Int)) ⟨rfl,Nat.zero_le _,fun hn=>absurd hn (Nat.lt_irrefl _)⟩)
 | [l0],hA,hL,hB,he,hs,hcl=>
   have hAl:=hA zd;subst hAl;obtain⟨v,h1,h2⟩:=hL.row 0 zd;have G:bytesB l0=true:=rowsB_at hB 0;have I:l0.length=cols:=he 0 zd;have h2':RowV w v l0:=h2;rcases Nat.eq_zero_or_pos cols with h0|h0
   ·obtain⟨A,c,rfl,hc,hC,_⟩:=h2'.out;obtain rfl:l0= []:=List.length_eq_zero_iff.1 za;refine(Tryd.bytes_Join_one_empty g 0 cl A c _ w h1).mono ?_;rintro e w' ⟨rfl,rfl⟩;exact⟨_,rfl,⟨Kd.V_nil _ _ _ _ _,Below.refl _ _⟩⟩
   ·obtain⟨A,c,rfl,hc,hC,_⟩:=h2'.out;obtain⟨p,cap,ev,hn,hcells⟩:=holds_of_row h2' G;injection ev with e1 e2 e3;subst e1 e3
    cases A with
    |none=>
     have:=C_none hC;subst this;simp at I;omega
    |some ad=>
     have h1':w.cell? ⟨g,0,none⟩=some (.slice (some ad) (u8of l0).length c):=by rw[h1];simp[u8of]
     refine(Tryd.bytes_Join_one g 0 cl ad c (u8of l0) _ w h1' (hcells ad rfl) (by simp[u8of];omega) (by simp[u8of];omega)).mono ?_;rintro e w' ⟨v',rfl,hf,hb⟩;refine⟨_,rfl,⟨V_of_fresh hf ?_,hb⟩⟩;rw[u8of_back G];simp
 |l0::l1::r,hA,hL,hB,he,hs,hcl=>
  have hAl:=hA zd;subst hAl;generalize hM:l0::l1::r=M at*;have hlen:2<=M.length:=by rw[<-hM];simp
  have hex: ∀i,∃v:Value,i<M.length->w.cell? ⟨g,i,none⟩=some v/\RowV w v (M.getD i []):=fun i=>by
   by_cases hi:i<M.length
   case neg=>exact⟨undef,fun h=>absurd h hi⟩
   obtain⟨v,h⟩:=hL.row i hi;exact⟨v,fun _=>h⟩
  obtain⟨vf,hvf⟩:=Classical.axiomOfChoice hex;have hP:Lib.PartsAt w ⟨g,0,none⟩ ((List.range M.length).map vf) (M.map u8of):=by
   refine⟨by simp,fun i v hv=>?_,fun i v l hv hl=>?_⟩
   ·rw[List.getElem?_map]at hv
    obtain⟨j,hj,rfl⟩:=Option.map_eq_some_iff.1 hv;obtain⟨hjl,D⟩:=List.getElem?_eq_some_iff.1 hj;rw[List.length_range]at hjl
    rw[List.getElem_range]at D
    subst D;have ha:(⟨g,0,none⟩:Addr).add i=⟨g,i,none⟩:=by unfold Addr.add;by_cases e:i=0<;>simp[e]
    rw[ha];exact(hvf i hjl).1
   ·rw[List.getElem?_map]at hv
    obtain⟨j,hj,rfl⟩:=Option.map_eq_some_iff.1 hv;obtain⟨hjl,D⟩:=List.getElem?_eq_some_iff.1 hj;rw[List.length_range]at hjl
    rw[List.getElem_range]at D
    subst D;rw[List.getElem?_map,List.getElem?_eq_getElem hjl]at hl
    have hl':u8of M[i] =l:=by simpa using hl
    have hr:=(hvf i hjl).2;have hg:M.getD i [] =M[i]:=by rw[List.getD_eq_getElem?_getD,List.getElem?_eq_getElem hjl];rfl
    have hb:=rowsB_at hB i;rw[hg]at hr hb
    rw[<-hl'];exact holds_of_row hr hb
  have hll:=lens_le he;have hmul:M.length*cols<=64*64:=Nat.mul_le_mul hs.1 hs.2;refine(Tryd.bytes_Join_many g 0 M.length cl _ (M.map u8of) (.slice none 0 0) [] w zd hlen hP hcl ⟨none,0,rfl,fun _=>rfl,fun a ha=>by cases ha⟩ za (by rw[hll];simp;omega)).mono ?_;rintro e w' ⟨v',rfl,hf,hb⟩;refine⟨_,rfl,⟨V_of_fresh hf ?_,hb⟩⟩;rw[join_flat,List.map_flatten,List.map_map]
  congr 1
  apply List.ext_getElem zd;intro i h1 h2;have hb:=rowsB_at hB i;rw[List.getD_eq_getElem?_getD,List.getElem?_eq_getElem h2]at hb
  rw[List.getElem_map];exact u8of_back hb
structure Half (w:World) (R g cl:Nat) (Al:Option Addr) (M:List (List Int)) (cols:Nat):Prop where
 head:w.cell? ⟨R,0,none⟩=some (.slice Al M.length cl)
 wide:w.cell? ⟨R,2,none⟩=some (.int .i64 cols)
 hA:0<M.length->Al=some ⟨g,0,none⟩
 L:Lst w g M
 bM:rowsB M=true
 eM: ∀i,i<M.length->(M.getD i []).length=cols
 small:M.length<=64/\cols<=64
theorem Half.below{w w1:World}{R g cl:Nat}{Al:Option Addr}{M:List (List Int)}{cols:Nat}(h:Half w R g cl Al M cols)(hb:Below w.heap.size w w1):Half w1 R g cl Al M cols:=
 ⟨pw_cell_below hb h.head,pw_cell_below hb h.wide,h.hA,h.L.below hb,h.bM,h.eM,h.small⟩
theorem Hold.half{w:World}{R g d cl cd:Nat}{Al Ad:Option Addr}{M D:List (List Int)}{cols wd:Nat}(h:Hold w R g d cl cd Al Ad M D cols)(s:Shp M D cols wd):Half w R g cl Al M cols:=
 ⟨h.head,h.wide,h.hA,h.L,s.bM,s.eM,⟨s.small.1,s.small.2.1⟩⟩
theorem gauss_matrix.calls(R g cl:Nat)(Al:Option Addr)(M:List (List Int))(cols:Nat)(w:World)(hH:Half w R g cl Al M cols)(hcl:M.length<=cl):
 Calls Tryd.prog 104 #[.pointer (some ⟨R,0,none⟩)] w fun e w'=> ∃v,e= .returned (.agg #[.int .i64 M.length,.int .i64 cols,v])/\Aside0 (Kd.V (Kd.int .u8) 5 w' w.heap.size (fun k_=>(w.heap.size<=k_)) v M.flatten/\Below w.heap.size w w'):=by
 have aj:=Tryd.underlying24;have h0:=hH.head;have h2:=hH.wide;have HH:=aK hH;obtain⟨F,hF⟩: ∃F,F=M.flatten:=⟨_,rfl⟩
 rw[<-hF];have HF:=aK hF;clear hH hF
 go_enter Tryd.func104,Tryd.ntmps104
 go_wp2_with fail
 have I:=below_alloc (Below.refl w.heap.size w) (.cells #[.int .i64 0,.int .i64 0,.slice none 0 0] 24);have aa:=blk_new w (.cells #[.int .i64 0,.int .i64 0,.slice none 0 0] 24);have Y:=pw_cell_below I h0;have Z:=pw_cell_below I h2;have O:=aK I;clear I;generalize w.alloc (.cells #[.int .i64 0,.int .i64 0,.slice none 0 0] 24)=w1 at*;refine start_ (n:=16) (S:=fun w'=>w'.cell? ⟨R,0,none⟩=some (.slice Al M.length cl)/\w'.cell? ⟨R,2,none⟩=some (.int .i64 cols)) (ds:= [15]) (mB 16 0) zc rfl rfl ⟨Y,Z⟩ (fun hHeld=>?_);have U:=aK (below_drew O.out);have J:w1.drew.heap[w.heap.size]? =some (.cells #[.int .i64 0,.int .i64 0,.slice none 0 0] 24):=aa;clear O aa Y Z;generalize w1.drew=w2 at*;refine zpu 0 (some 3) (mB 16 1) ?_;refine zpu 1 (some 4) (mB 16 3) ?_;refine zpu 2 (some 5) (mB 16 7) ?_;refine zpu 5 (some 8) (mB 16 39) ?_;refine zpu 6 (some 9) (mB 16 103) ?_;refine zpu 7 (some 10) (mB 16 231) ?_;refine zpu 9 (some 12) (mB 16 743) ?_;refine zpu 10 (some 13) (mB 16 1767) ?_;refine zpu 11 (some 14) (mB 16 3815) ?_;refine ztk2 3 (some 6) (mB 16 3823) hHeld ?_;refine zpu 4 (some 7) (mB 16 3839) ?_;refine ztk2 8 (some 11) (mB 16 4095) hHeld ?_;refine ztk2 12 (some 15) (mB 16 8191) hHeld ?_;refine zon 13 (some 16) (mB 16 16383) fun K hK=>?_;refine goes_ Tryd.func116 zc rfl #[.slice Al M.length cl,.slice none 0 0] ze rfl rfl zn ?_;refine(bytes_Join.calls g cl cols Al M w2 HH.out.hA (HH.out.below U.out).L HH.out.bM HH.out.eM HH.out.small hcl).mono ?_;rintro e w3 ⟨v,rfl,hq⟩;rw[<-HF.out]at hq
 refine⟨_,rfl,?_⟩;obtain⟨Av,cv,ev⟩:=V_slice hq.out.1;subst ev;have G:=hq.out.2;have D:=(G.block _ (lt_of_get J)).trans J;have ag:=(blk_cell D 0).trans rfl;have ah:=(blk_cell D 1).trans rfl;have ai:=(blk_cell D 2).trans rfl;have ac:=blk_frozen D 0;have ae:=blk_frozen D 1;have af:=blk_frozen D 2;refine hK.out _ _ ⟨pw_cell_below G hHeld.1,pw_cell_below G hHeld.2⟩ (fun hHeld=>?_);clear hK K;refine znm (some 16) ?_;refine zpu 14 (some 17) (mB 16 32767) ?_;refine zln 15 (none) (mB 16 65535) fun K hK=>?_;refine zsk ?_;refine hK.out _ _ ?_;clear hK K;refine done_ zc ?_;clear hHeld ag ah ai ac ae af;have HQ:=aK hq.out;have ab:=aK (G);have X:=aK D;clear hq G D
 go_wp2_with fail
 refine bodyPost_ret (results_cell_row rfl _ _ w.heap.size 24 #[.int .i64 M.length,.int .i64 cols,.slice Av F.length cv] (0,0) _ rfl (blk_put (cs:= #[.int .i64 M.length,.int .i64 cols,.slice none 0 0]) (blk_put (cs:= #[.int .i64 M.length,.int .i64 0,.slice none 0 0]) (blk_put (cs:= #[.int .i64 0,.int .i64 0,.slice none 0 0]) X.out 0 _ rfl) 1 _ rfl) 2 _ rfl) Tryd.underlying24 rfl zc) rfl ?_;have h4:=HQ.out.1;have hlt:=lt_of_get X.out;have ak:=lt_of_get J;refine⟨_,rfl,⟨?_,?_⟩⟩
 ·refine V_mono (V_far (V_far (V_far h4 (p:=⟨w.heap.size,0,none⟩) (fun k hk=>?_) _) (p:=⟨w.heap.size,1,none⟩) (fun k hk=>?_) _) (p:=⟨w.heap.size,2,none⟩) (fun k hk=>?_) _) (fun k hk=>?_)
  all_goals
   have hk':w2.heap.size<=k:=hk
   first
    |exact fun e=>by have e':k=w.heap.size:=e;omega
    |(show w.heap.size<=k;omega)
 ·exact(((below_step U.out ab.out).setCell (Nat.le_refl _) _).setCell (Nat.le_refl _) _).setCell (Nat.le_refl _) _
def gauss_Reduce.M(a b:Int)(l:List Int):List (List Int):=rowsOf b.toNat a.toNat l
def gauss_Reduce.st(a b:Int)(l:List Int):(List (List Int)×List (List Int))×List Int:=redTo (gauss_Reduce.M a b l) (List.replicate a.toNat []) b.toNat
def gauss_Reduce.f(a b:Int)(l:List Int):Option (Int×Int×List Int×List Int×Int):=
 (matrix_Right.f a b l).bind fun t=>if t=true then(if bytesB l=true then some (a,b,(gauss_Reduce.st a b l).1.1.flatten,(gauss_Reduce.st a b l).2,0)else none)else some (0,0,[],[],3)
theorem right_true{a b:Int}{l:List Int}(h:matrix_Right.f a b l=some true):0<=a/\a<=64/\0<=b/\b<=64/\l.length=a.toNat*b.toNat:=by
 unfold matrix_Right.f matrix_side.f at h;by_cases h1:a>=0
 case neg=>rw[if_neg h1]at h;simp at h
 rw[if_pos h1]at h
 by_cases h2:a<=64
 case neg=>simp[h2]at h
 by_cases h3:b>=0
 case neg=>rw[if_neg h3]at h;simp[h2]at h
 by_cases h4:b<=64
 case neg=>rw[if_pos h3]at h;simp[h2,h4]at h
 rw[if_pos h3]at h
 simp[h2,h4]at h
 obtain⟨x,rfl⟩:=Int.eq_ofNat_of_zero_le h1;obtain⟨y,rfl⟩:=Int.eq_ofNat_of_zero_le h3;have hm:x*y<=64*64:=Nat.mul_le_mul za za;rw[<-Int.natCast_mul,wrap_small za za]at h
 refine⟨h1,h2,h3,h4,?_⟩;rw[Int.toNat_natCast,Int.toNat_natCast];omega
theorem bytesB_sub{l:List Int}(h:bytesB l=true)(i n:Nat):bytesB ((l.drop i).take n)=true:=by
 unfold bytesB at h⊢;rw[List.all_eq_true]at h⊢
 exact fun x hx=>h x (List.mem_of_mem_drop (List.mem_of_mem_take hx))
theorem shp_of{rows cols:Nat}{l:List Int}(hb:bytesB l=true)(hl:l.length=rows*cols)(h:rows<=64/\cols<=64){D:List (List Int)}(hD:D.length=rows)(hDb:rowsB D=true){wd:Nat}(hDe: ∀i,i<rows->(D.getD i []).length=wd)(hwd:wd<=64):Shp (rowsOf cols rows l) D cols wd:=by
 have hlen:=rowsOf_length cols rows l;refine⟨by rw[hD,hlen],?_,hDb,fun i hi=>?_,fun i hi=>hDe i za,⟨by omega,h.2,hwd⟩⟩
 ·rw[rowsB,List.all_eq_true];intro x hx;obtain⟨i,_,rfl⟩:=List.mem_map.1 hx;exact bytesB_sub hb _ _
 ·rw[hlen]at hi
  rw[rowsOf_get hi];have hle:i*cols+cols<=l.length:=by rw[hl,<-Nat.succ_mul];exact Nat.mul_le_mul_right _ hi
  simp;omega
theorem shp_nil{rows cols:Nat}{l:List Int}(hb:bytesB l=true)(hl:l.length=rows*cols)(h:rows<=64/\cols<=64):Shp (rowsOf cols rows l) (List.replicate rows []) cols 0:=
 shp_of hb hl h zd (by rw[rowsB,List.all_eq_true];intro x hx;rw[List.eq_of_mem_replicate hx];rfl) (fun i hi=>by rw[List.getD_eq_getElem?_getD,List.getElem?_replicate_of_lt hi];rfl) (Nat.zero_le _)
theorem gauss_Reduce.calls(J:Int)(L:Int)(G:Option Addr)(I:Nat)(D:List Int)(r1:Int)(r2:Int)(r3:List Int)(r4:List Int)(r5:Int)(w:World)(ae:Kd.C (Kd.int .u8) w G D.length D)(ab:D.length<=I)(h:gauss_Reduce.f J L D=some (r1,r2,r3,r4,r5)):
 Calls Tryd.prog 90 #[.agg #[.int .i64 J,.int .i64 L,.slice G D.length I]] w fun e w'=> ∃v2_ v3_:Value,e= .returned (.tuple #[.agg #[.int .i64 r1,.int .i64 r2,v2_],v3_,.int .i64 r5])/\Kd.V (Kd.int .u8) 5 w' w.heap.size (fun k_=>(w.heap.size<=k_)/\some k_≠(v3_:Value).ownBlock) v2_ r3/\Kd.R (Kd.int .i64) 3 w' w.heap.size (fun k_=>(w.heap.size<=k_)) v3_ r4/\Below w.heap.size w w':=by
 have az:=Tryd.underlying24;have HR:=aK ae;have HC:=aK ab;clear ae ab;unfold gauss_Reduce.f at h;obtain⟨t,hm,h⟩:=Option.bind_eq_some_iff.mp h;have HM:=aK hm
 cases t with
 |false=>
  simp only[Bool.false_eq_true,if_false,Option.some.injEq,Prod.mk.injEq]at h;obtain⟨rfl,rfl,rfl,rfl,rfl⟩:=h;clear hm
  go_enter Tryd.func90,Tryd.ntmps90
  go_upto_region 1 with(fail)
  have aa:=below_alloc (below_alloc (Below.refl w.heap.size w) (.cells #[.int .i64 J,.int .i64 L,.slice G D.length I] 24)) (.cells #[.int .i64 0,.int .i64 0,.slice none 0 0] 24);have hbm:=heap_alloc2_old w (.cells #[.int .i64 J,.int .i64 L,.slice G D.length I] 24) (.cells #[.int .i64 0,.int .i64 0,.slice none 0 0] 24);have hbr:=blk_new (w.alloc (.cells #[.int .i64 J,.int .i64 L,.slice G D.length I] 24)) (.cells #[.int .i64 0,.int .i64 0,.slice none 0 0] 24);rw[World.size_alloc]at hbr
  have Y:=aK aa;clear aa;generalize(w.alloc (.cells #[.int .i64 J,.int .i64 L,.slice G D.length I] 24)).alloc (.cells #[.int .i64 0,.int .i64 0,.slice none 0 0] 24)=w2 at*;have x0:w2.cell? ⟨w.heap.size,0,none⟩=some (.int .i64 J):=(blk_cell hbm 0).trans rfl;have x1:w2.cell? ⟨w.heap.size,1,none⟩=some (.int .i64 L):=(blk_cell hbm 1).trans rfl;have x2:w2.cell? ⟨w.heap.size,2,none⟩=some (.slice G D.length I):=(blk_cell hbm 2).trans rfl
  go_wp2_with fail
  refine(matrix_Right.calls J L G I D false _ (C_below HR.out Y.out) HC.out HM.out).mono ?_;rintro e w3 ⟨rfl,U⟩;have O:=(U.block _ (lt_of_get hbr)).trans hbr;have y0:w3.cell? ⟨w.heap.size+1,0,none⟩=some (.int .i64 0):=(blk_cell O 0).trans rfl;have y1:w3.cell? ⟨w.heap.size+1,1,none⟩=some (.int .i64 0):=(blk_cell O 1).trans rfl;have y2:w3.cell? ⟨w.heap.size+1,2,none⟩=some (.slice none 0 0):=(blk_cell O 2).trans rfl;have f0:=blk_frozen O 0;have f1:=blk_frozen O 1;have f2:=blk_frozen O 2;clear x0 x1 x2;have Z:=aK (below_step Y.out U);clear U
  go_wp2_with fail
  have n1:=Y.out.size;refine bodyPost_ret (results_ctt rfl _ _ (w.heap.size+1) 24 #[.int .i64 0,.int .i64 0,.slice none 0 0] (0,0) _ rfl (blk_put (cs:= #[.int .i64 0,.int .i64 0,.slice none 0 0]) (blk_put (cs:= #[.int .i64 0,.int .i64 0,.slice none 0 0]) (blk_put (cs:= #[.int .i64 0,.int .i64 0,.slice none 0 0]) O 0 _ rfl) 1 _ rfl) 2 _ rfl) Tryd.underlying24 rfl zc) rfl ?_;refine⟨_,_,rfl,Kd.V_nil _ _ _ _ _,R_nil _ _ _ _ _,?_⟩;exact((Z.out.setCell zg _).setCell zg _).setCell zg _
 |true=>
  have hrt:=right_true hm;rw[if_pos rfl]at h
  by_cases hb:bytesB D=true
  case neg=>
   rw[if_neg hb]at h
   cases h
  rw[if_pos hb]at h
  simp only[Option.some.injEq,Prod.mk.injEq]at h;obtain⟨rfl,rfl,rfl,rfl,rfl⟩:=h;obtain⟨e0,e1,e2,e3,hl⟩:=hrt;obtain⟨rows,rfl⟩:=Int.eq_ofNat_of_zero_le e0;obtain⟨cols,rfl⟩:=Int.eq_ofNat_of_zero_le e2;rw[Int.toNat_natCast,Int.toNat_natCast]at hl
  have hrw:rows<=64/\cols<=64:=by omega
  have HS:=aK (shp_nil hb hl hrw);have HST:=aK (show gauss_Reduce.st (rows:Int) (cols:Int) D=redTo (rowsOf cols rows D) (List.replicate rows []) cols from rfl);have HL:=aK hl;generalize gauss_Reduce.st (rows:Int) (cols:Int) D=st at*;obtain⟨F,hF⟩: ∃F,F=st.1.1.flatten:=⟨_,rfl⟩
  rw[<-hF];have HF:=aK hF;clear hF hb hm hl e0 e1 e2 e3
  go_enter Tryd.func90,Tryd.ntmps90
  go_upto_region 1 with(fail)
  have aa:=below_alloc (below_alloc (Below.refl w.heap.size w) (.cells #[.int .i64 (rows:Int),.int .i64 (cols:Int),.slice G D.length I] 24)) (.cells #[.int .i64 0,.int .i64 0,.slice none 0 0] 24);have hbm:=heap_alloc2_old w (.cells #[.int .i64 (rows:Int),.int .i64 (cols:Int),.slice G D.length I] 24) (.cells #[.int .i64 0,.int .i64 0,.slice none 0 0] 24);have hbr:=blk_new (w.alloc (.cells #[.int .i64 (rows:Int),.int .i64 (cols:Int),.slice G D.length I] 24)) (.cells #[.int .i64 0,.int .i64 0,.slice none 0 0] 24);rw[World.size_alloc]at hbr
  have Y:=aK aa;clear aa;generalize(w.alloc (.cells #[.int .i64 (rows:Int),.int .i64 (cols:Int),.slice G D.length I] 24)).alloc (.cells #[.int .i64 0,.int .i64 0,.slice none 0 0] 24)=w2 at*;have x0:w2.cell? ⟨w.heap.size,0,none⟩=some (.int .i64 (rows:Int)):=(blk_cell hbm 0).trans rfl;have x1:w2.cell? ⟨w.heap.size,1,none⟩=some (.int .i64 (cols:Int)):=(blk_cell hbm 1).trans rfl;have x2:w2.cell? ⟨w.heap.size,2,none⟩=some (.slice G D.length I):=(blk_cell hbm 2).trans rfl
  go_wp2_with fail
  refine(matrix_Right.calls rows cols G I D true _ (C_below HR.out Y.out) HC.out HM.out).mono ?_;rintro e w3 ⟨rfl,U⟩;have O:=(U.block _ (lt_of_get hbr)).trans hbr;have ag:=(U.block _ (lt_of_get hbm)).trans hbm;have Z:=aK (below_step Y.out U);clear x0 x1 x2 hbr hbm U;have x0:w3.cell? ⟨w.heap.size,0,none⟩=some (.int .i64 rows):=(blk_cell ag 0).trans rfl;have x1:w3.cell? ⟨w.heap.size,1,none⟩=some (.int .i64 cols):=(blk_cell ag 1).trans rfl;have x2:w3.cell? ⟨w.heap.size,2,none⟩=some (.slice G D.length I):=(blk_cell ag 2).trans rfl
  go_wp2_with fail
  refine(gauss_of.calls rows cols G I D w3 (C_below HR.out Z.out) HC.out HL.out hrw).mono ?_;rintro e w4 ⟨R,rfl,hq⟩;obtain⟨g,d,cl,cd,Al,Ad,hH,ai,hg,hd,hRw,ay,ax,hcl,hcd,cR,hRf⟩:=hq.out;have aq:=(ai.block _ (lt_of_get O)).trans O;have HH:=aK hH;have ah:=aK (below_step Z.out ai);have ar:=lt_of_get O;clear hq hH ai O ag x0 x1 x2
  go_wp2_with fail
  refine(gauss_reduce.calls R g d cl cd Al Ad _ _ cols 0 w4 HH.out HS.out ay ax).mono ?_;rintro e w5 ⟨v,rfl,hq⟩;rw[<-HST.out]at hq
  obtain⟨an,ap,ao⟩:=hq.out;have aj:=ao.to_below (n:=w3.heap.size) (by have:=ah.out.size;omega) (fun i hi=>by rcases hi with(hi|hi)|hi<;>omega);have ak:=(aj.block _ ar).trans aq;have av:=aK an;have am:=aK ap;have al:=aK aj;have hsh:=red_shp HS.out cols;rw[<-HST.out]at hsh
  have HSH:=aK hsh;have a0:=ah.out.size;clear hq an ap ao aj aq hsh
  go_wp2_with fail
  have hlen:st.1.1.length=rows:=by rw[HSH.out.2.1,rowsOf_length]
  refine(gauss_matrix.calls R g cl Al st.1.1 cols w5 (av.out.half HSH.out.1) za).mono ?_;rintro e w6 ⟨vm,rfl,hq⟩;rw[<-HF.out]at hq
  rw[hlen];obtain⟨Av,cv,ev⟩:=V_slice hq.out.1;subst ev;have af:=hq.out.2;have X:=(af.block _ (lt_of_get ak)).trans ak;have HV:=aK hq.out.1;have aw:=aK (R_below am.out af);have ac:=(R_bound am.out).1;have n3:=Z.out.size;have n5:=al.out.size;have au:=aK ((ah.out.trans (al.out.mono n3)).trans (af.mono za));have y0:w6.cell? ⟨w.heap.size+1,0,none⟩=some (.int .i64 0):=(blk_cell X 0).trans rfl;have y1:w6.cell? ⟨w.heap.size+1,1,none⟩=some (.int .i64 0):=(blk_cell X 1).trans rfl;have y2:w6.cell? ⟨w.heap.size+1,2,none⟩=some (.slice none 0 0):=(blk_cell X 2).trans rfl;have f0:=blk_frozen X 0;have f1:=blk_frozen X 1;have f2:=blk_frozen X 2;clear hq af ak hlen
  go_wp2_with fail
  refine bodyPost_ret (results_ctt rfl _ _ (w.heap.size+1) 24 #[.int .i64 rows,.int .i64 cols,.slice Av F.length cv] (0,0) _ rfl (blk_put (cs:= #[.int .i64 rows,.int .i64 cols,.slice none 0 0]) (blk_put (cs:= #[.int .i64 rows,.int .i64 0,.slice none 0 0]) (blk_put (cs:= #[.int .i64 0,.int .i64 0,.slice none 0 0]) X 0 _ rfl) 1 _ rfl) 2 _ rfl) Tryd.underlying24 rfl zc) rfl ?_;have hown: ∀k,v.ownBlock=some k->w4.heap.size<=k/\k<w5.heap.size:=fun k hk=>⟨(ac k hk).2.1,(ac k hk).2.2.1⟩
  refine⟨_,_,rfl,?_,?_,?_⟩
  ·refine V_mono (V_far (V_far (V_far HV.out (p:=⟨w.heap.size+1,0,none⟩) (fun k hk e=>?_) _) (p:=⟨w.heap.size+1,1,none⟩) (fun k hk e=>?_) _) (p:=⟨w.heap.size+1,2,none⟩) (fun k hk e=>?_) _) (fun k hk=>⟨?_,fun e=>?_⟩)
   ·have h1:w5.heap.size<=k:=hk;have h2:k=w.heap.size+1:=e;omega
   ·have h1:w5.heap.size<=k:=hk;have h2:k=w.heap.size+1:=e;omega
   ·have h1:w5.heap.size<=k:=hk;have h2:k=w.heap.size+1:=e;omega
   ·have h1:w5.heap.size<=k:=hk;omega
   ·have h1:w5.heap.size<=k:=hk;have h2:=(hown k e.symm).2;omega
  ·have h1:=R_lower (R_bound aw.out) (by omega:w.heap.size<=w4.heap.size);refine R_mono (R_far (R_far (R_far h1 (p:=⟨w.heap.size+1,0,none⟩) (fun k hk e=>?_) _) (p:=⟨w.heap.size+1,1,none⟩) (fun k hk e=>?_) _) (p:=⟨w.heap.size+1,2,none⟩) (fun k hk e=>?_) _) (fun k hk=>?_)
   ·have h1:=hk.2.1;have h2:k=w.heap.size+1:=e;omega
   ·have h1:=hk.2.1;have h2:k=w.heap.size+1:=e;omega
   ·have h1:=hk.2.1;have h2:k=w.heap.size+1:=e;omega
   ·have h1:=hk.2.1;omega
  ·exact((au.out.setCell zg _).setCell zg _).setCell zg _
theorem Hold.putD{w w1:World}{R g d cl cd:Nat}{Al Ad:Option Addr}{M D:List (List Int)}{cols i:Nat}{v:Value}{l:List Int}(h:Hold w R g d cl cd Al Ad M D cols)(hi:i<D.length)(hg:w.grownBy w1 (some d))
 (hd:w1.heap[d]? =(w.setCell ⟨d,i,none⟩ v).heap[d]?) (hv:RowV w1 v l):Hold w1 R g d cl cd Al Ad M (D.set i l) cols:=by
 obtain⟨cells,hc⟩:=h.LD.typ za;have kb:KeepB w w1:=KeepB.grown hg hc zb;refine h.right hg ⟨fun _=>?_,fun j hj=>?_,fun j hj=>?_⟩ zd za
 ·exact⟨_,hd.trans (blk_put hc i v rfl)⟩
 ·rw[List.length_set]at hj
  rw[cell_same (w:=w.setCell ⟨d,i,none⟩ v) (p:=⟨d,j,none⟩) hd];by_cases e:i=j
  case neg=>obtain⟨v0,h1,h2⟩:=h.LD.row j hj;refine⟨v0,(World.cell?_setCell_other _ _ _ _ (by simp[e])).trans h1,?_⟩;rw[List.getD_eq_getElem?_getD,List.getElem?_set_ne e,<-List.getD_eq_getElem?_getD];exact h2.keep kb
  subst e;obtain⟨v0,h1,_⟩:=h.LD.row i hi;refine⟨v,World.cell?_setCell_same' _ _ _ (by rw[h1];rfl),?_⟩;rw[List.getD_eq_getElem?_getD,List.getElem?_set_self hi];exact hv
 ·rw[frozen_same (w:=w.setCell ⟨d,i,none⟩ v) (p:=⟨d,j,none⟩) hd,World.frozen?_setCell];exact h.LD.frz j (by simpa using hj)
theorem mul_small{i cols f:Nat}(hf:f=i*cols)(h:f<=1000000):wrap64 ((i:Int)*(cols:Int))=(f:Int)/\IntKind.i64.wrap ((i:Int)*(cols:Int))=(f:Int):=by
 have e:((i:Int)*(cols:Int))=(f:Int):=by rw[hf];simp
 clear hf;rw[e];exact⟨wrap_small za za,iwrap_small za za⟩
theorem matrix_row.calls(ra:Int)(cols i n c f f2:Nat)(A:Option Addr)(w:World)(hf:f=i*cols)(D:f2=(i+1)*cols)(hc:f2<=c)(hi:i<=64)(J:cols<=64):
 Calls Tryd.prog 66 #[.agg #[.int .i64 ra,.int .i64 cols,.slice A n c],.int .i64 i] w fun e w'=>e= .returned (.slice (if f2=f then A else A.map (·.add f)) cols cols)/\Below w.heap.size w w':=by
 have X:=Tryd.underlying24;have hff:f2=f+cols:=by rw[D,hf,Nat.add_mul,Nat.one_mul]
 have hfs:f<=4096:=by rw[hf];exact Nat.mul_le_mul hi J
 have m1:=mul_small hf (by clear hf D;omega);have m2:=mul_small D (by clear hf D m1;omega);clear hf D;obtain⟨w1b,w1a⟩:=m1;obtain⟨w2b,w2a⟩:=m2;rw[show((i+1:Nat):Int)=(i:Int)+1 from by omega]at w2a w2b
 have HFF:=aK hff;have U:(f:Int)<=(f2:Int):=by clear w1a w1b w2a w2b;omega
 have hf2c:(f2:Int)<=(c:Int):=by clear w1a w1b w2a w2b;omega
 have hfi:(0:Int)<=(f:Int):=by clear w1a w1b w2a w2b;omega
 have w3a:IntKind.i64.wrap ((i:Int)+1)=(i:Int)+1:=by clear w1a w1b w2a w2b;exact iwrap_small za za
 clear hff
 go_enter Tryd.func66,Tryd.ntmps66
 go_wp2_with fail
 have I:=below_alloc (Below.refl w.heap.size w) (.cells #[.int .i64 ra,.int .i64 cols,.slice A n c] 24);have G:=blk_new w (.cells #[.int .i64 ra,.int .i64 cols,.slice A n c] 24);generalize w.alloc (.cells #[.int .i64 ra,.int .i64 cols,.slice A n c] 24)=w1 at*;refine start_ (n:=11) (S:=fun w'=>w'.cell? ⟨w.heap.size,1,none⟩=some (.int .i64 cols)) (ds:= []) (mB 11 0) zc rfl rfl ((blk_cell G 1).trans rfl) (fun hHeld=>?_);have O:w1.drew.heap[w.heap.size]? =some (.cells #[.int .i64 ra,.int .i64 cols,.slice A n c] 24 (0,0)):=G;have L:Below w.heap.size w w1.drew:=below_drew I;clear G I;generalize w1.drew=w2 at*;refine zpu 0 (some 7) (mB 11 1) ?_;refine zpu 1 (some 8) (mB 11 3) ?_;refine zpu 4 (some 11) (mB 11 19) ?_;refine zpu 5 (some 12) (mB 11 51) ?_;refine zpu 6 (some 13) (mB 11 115) ?_;refine ztk1 2 (some 9) (mB 11 119) hHeld ?_;refine zpu 3 (some 10) (mB 11 127) ?_;refine zpu 9 (some 5) (mB 11 639) ?_;refine ztk1 7 (some 14) (mB 11 767) hHeld ?_;refine zpu 8 (some 15) (mB 11 1023) ?_;refine zpu 10 (some 6) (mB 11 2047) ?_;refine done_ zc ?_;clear hHeld w1a w2a w1b w2b w3a;have z:w2.cell? ⟨w.heap.size,2,none⟩=some (.slice A n c):=(blk_cell O 2).trans rfl;have hsub:f2-f=cols:=by have:=HFF.out;omega
 go_wp2_with fail
 all_goals
  go_ret
  exact⟨rfl,L⟩
def midT(rows cols:Nat)(l:List Int)(i j:Nat):List Int:=(List.range (cols*rows)).map fun q=>if q % rows<i∨(q % rows=i/\q / rows<j)then l.getD (q % rows*cols+q / rows) 0 else 0
def transL(rows cols:Nat)(l:List Int):List Int:=(List.range (cols*rows)).map fun q=>l.getD (q % rows*cols+q / rows) 0
theorem midT_length(rows cols:Nat)(l:List Int)(i j:Nat):(midT rows cols l i j).length=cols*rows:=by simp[midT]
theorem midT_zero(rows cols:Nat)(l:List Int):midT rows cols l 0 0=List.replicate (cols*rows) 0:=by
 apply List.ext_getElem (by simp[midT]);intro q h1 h2;simp[midT]
theorem midT_step{rows cols:Nat}{l:List Int}{i j:Nat}(hi:i<rows)(hj:j<cols):(midT rows cols l i j).set (j*rows+i) (l.getD (i*cols+j) 0)=midT rows cols l i (j+1):=by
 have hm:(j*rows+i) % rows=i:=by rw[Nat.add_comm,Nat.add_mul_mod_self_right,Nat.mod_eq_of_lt hi]
 have hd:(j*rows+i) / rows=j:=by rw[Nat.add_comm,Nat.add_mul_div_right _ _ za,Nat.div_eq_of_lt hi,Nat.zero_add]
 apply List.ext_getElem (by simp[midT]);intro q h1 h2;simp only[midT,List.getElem_set,List.getElem_map,List.getElem_range];by_cases e:j*rows+i=q
 ·subst e;rw[if_pos rfl,hm,hd,if_pos (.inr ⟨rfl,by omega⟩)]
 ·rw[if_neg e];have hq:=Nat.div_add_mod q rows;by_cases c:q % rows<i∨(q % rows=i/\q / rows<j)
  ·rw[if_pos c,if_pos (c.imp id (fun⟨a,b⟩=>⟨a,by omega⟩))]
  ·rw[if_neg c,if_neg];rintro(h|⟨h,h'⟩)
   ·exact c (.inl h)
   ·rcases Nat.lt_or_eq_of_le (Nat.le_of_lt_succ h')with h3|h3
    ·exact c (.inr ⟨h,h3⟩)
    ·apply e;rw[h,h3]at hq
     rw[Nat.mul_comm];exact hq
theorem midT_row{rows cols:Nat}{l:List Int}{i:Nat} :midT rows cols l i cols=midT rows cols l (i+1) 0:=by
 apply List.ext_getElem (by simp[midT]);intro q h1 h2;rw[midT_length]at h1
 have hq:q / rows<cols:=by
  rcases Nat.eq_zero_or_pos rows with h|h
  ·subst h;simp at h1
  ·exact(Nat.div_lt_iff_lt_mul h).2 h1
 simp only[midT,List.getElem_map,List.getElem_range];have:(q % rows<i∨(q % rows=i/\q / rows<cols))↔(q % rows<i+1∨(q % rows=i+1/\q / rows<0)):=by
  generalize q % rows=a at*;generalize q / rows=b at*;omega
 by_cases c:q % rows<i∨(q % rows=i/\q / rows<cols)
 ·rw[if_pos c,if_pos (this.1 c)]
 ·rw[if_neg c,if_neg (fun h=>c (this.2 h))]
theorem midT_all{rows cols:Nat}{l:List Int} :midT rows cols l rows 0=transL rows cols l:=by
 apply List.ext_getElem (by simp[midT,transL]);intro q h1 h2;rw[midT_length]at h1
 have hr:0<rows:=by
  rcases Nat.eq_zero_or_pos rows with h|h
  ·subst h;simp at h1
  ·exact h
 simp only[midT,transL,List.getElem_map,List.getElem_range];rw[if_pos (.inl (Nat.mod_lt _ hr))]
theorem blank_some{a b:Nat}(h:a*b<=10000):matrix_blank.f (a:Int) (b:Int)=some ((a:Int),(b:Int),List.replicate (a*b) (0:Int)):=by
 unfold matrix_blank.f;rw[(mul_small (i:=a) (cols:=b) rfl za).1,if_pos za,Int.toNat_natCast,if_pos za]
structure TS (w:World) (bm rb bt rows cols c:Nat) (A:Option Addr) (l:List Int) (vt:Value) (L:List Int) (wr:World):Prop where
 hm:wr.heap[bm]? =some (.cells #[.int .i64 rows,.int .i64 cols,.slice A l.length c] 24 (0,0))
 hr:wr.heap[rb]? =some (.cells #[.int .i64 0,.int .i64 0,.slice none 0 0] 24 (0,0))
 ht:wr.heap[bt]? =some (.cells #[.int .i64 cols,.int .i64 rows,vt] 24 (0,0))
 data:Kd.R (Kd.int .u8) 5 wr w.heap.size (fun _=>True) vt L
 below:Below w.heap.size w wr
 n1:w.heap.size<=bm
 n2:w.heap.size<=rb
 n3:w.heap.size<=bt
theorem TS.next{w:World}{bm rb bt rows cols c:Nat}{A:Option Addr}{l:List Int}{vt:Value}{L:List Int}{wr w1:World}(h:TS w bm rb bt rows cols c A l vt L wr)(hb:Below wr.heap.size wr w1):TS w bm rb bt rows cols c A l vt L w1:=
 ⟨(hb.block _ (lt_of_get h.hm)).trans h.hm,(hb.block _ (lt_of_get h.hr)).trans h.hr,(hb.block _ (lt_of_get h.ht)).trans h.ht,R_below h.data hb,below_step h.below hb,h.n1,h.n2,h.n3⟩
theorem TS.put{w:World}{bm rb bt rows cols c xb n cx:Nat}{A:Option Addr}{l:List Int}{L:List Int}{wr:World}(h:TS w bm rb bt rows cols c A l (.slice (some ⟨xb,0,none⟩) n cx) L wr)(q:Nat)(x:Int):
 TS w bm rb bt rows cols c A l (.slice (some ⟨xb,0,none⟩) n cx) (L.set q x) (wr.setCell ⟨xb,q,none⟩ (.int .u8 x)):=by
 obtain⟨_,cells,hc⟩:=own_addr (b:=xb) h.data rfl;have hx:w.heap.size<=xb:=((R_bound h.data).1 xb rfl).2.1;have hne: ∀(a:Nat) (ca:Array Value),wr.heap[a]? =some (.cells ca 24 (0,0))->a≠xb:=fun a ca h1 e=>by
  subst e;rw[h1]at hc
  injection hc with hc;injection hc with _ hc;exact absurd hc zb
 have hp:=Kd.R_putn h.data (q:Int) x;rw[Int.toNat_natCast]at hp
 exact⟨(Below.heap_setCell _ _ _ _ (hne _ _ h.hm)).trans h.hm,(Below.heap_setCell _ _ _ _ (hne _ _ h.hr)).trans h.hr,(Below.heap_setCell _ _ _ _ (hne _ _ h.ht)).trans h.ht,hp,h.below.setCell hx _,h.n1,h.n2,h.n3⟩
theorem R_elt{w:World}{base:Nat}{ok:Nat->Prop}{b n c i:Nat}{L:List Int}(h:Kd.R (Kd.int .u8) 5 w base ok (.slice (some ⟨b,0,none⟩) n c) L)(hi:i<L.length):w.cell? ⟨b,i,none⟩=some (.int .u8 (L.getD i 0))/\w.frozen? ⟨b,i,none⟩=false:=by
 have h1:=Kd.reads_of_C (enc:=Value.int .u8) (d:=(0:Int)) (h1:=fun _=>rfl) (R_reads' h).2.2;obtain⟨_,cells,hcc⟩:=own_addr (b:=b) h rfl;obtain⟨G,D,hcell⟩:=h1.2.2 za
 cases D
 refine⟨?_,by simp[World.frozen?,hcc]⟩;rw[show(⟨b,i,none⟩:Addr)=(⟨b,0,none⟩:Addr).add i from by unfold Addr.add;by_cases e:i=0<;>simp[e]];exact hcell i hi
theorem R_head{w:World}{base:Nat}{ok:Nat->Prop}{A:Option Addr}{n c:Nat}{L:List Int}(h:Kd.R (Kd.int .u8) 5 w base ok (.slice A n c) L)(hL:0<L.length): ∃b,A=some ⟨b,0,none⟩:=by
 have h1:=Kd.reads_of_C (enc:=Value.int .u8) (d:=(0:Int)) (h1:=fun _=>rfl) (R_reads' h).2.2;obtain⟨ad,ha,_⟩:=h1.2.2 hL;subst ha;obtain⟨e,_⟩:=own_addr (b:=ad.block) h rfl;injection e with e;exact⟨ad.block,by rw[e]⟩
theorem matrix_turned.calls(rows cols:Nat)(A:Option Addr)(c:Nat)(l:List Int)(w:World)(hr:Kd.C (Kd.int .u8) w A l.length l)(hc:l.length<=c)(hl:l.length=rows*cols)(aw:rows<=64/\cols<=64):
 Calls Tryd.prog 91 #[.agg #[.int .i64 rows,.int .i64 cols,.slice A l.length c]] w fun e w'=> ∃v,e= .returned (.agg #[.int .i64 cols,.int .i64 rows,v])/\Aside0 (Kd.R (Kd.int .u8) 5 w' w.heap.size (fun _=>True) v (transL rows cols l)/\Below w.heap.size w w'):=by
 have a5:=Tryd.underlying24;obtain⟨h1,h2⟩:=aw;have hcr:cols*rows<=4096:=Nat.mul_le_mul (by omega:cols<=64) (by omega:rows<=64);have HR:=aK hr;have HL:=aK hl;have HBL:=aK (blank_some (a:=cols) (b:=rows) za);clear hr hl
 go_enter Tryd.func91,Tryd.ntmps91
 go_upto_region 1 with(fail)
 have ao:=below_alloc (below_alloc (Below.refl w.heap.size w) (.cells #[.int .i64 rows,.int .i64 cols,.slice A l.length c] 24)) (.cells #[.int .i64 0,.int .i64 0,.slice none 0 0] 24);have hbm:=heap_alloc2_old w (.cells #[.int .i64 rows,.int .i64 cols,.slice A l.length c] 24) (.cells #[.int .i64 0,.int .i64 0,.slice none 0 0] 24);have hbr:=blk_new (w.alloc (.cells #[.int .i64 rows,.int .i64 cols,.slice A l.length c] 24)) (.cells #[.int .i64 0,.int .i64 0,.slice none 0 0] 24);rw[World.size_alloc]at hbr
 have ah:=aK ao;clear ao;generalize(w.alloc (.cells #[.int .i64 rows,.int .i64 cols,.slice A l.length c] 24)).alloc (.cells #[.int .i64 0,.int .i64 0,.slice none 0 0] 24)=w2 at*;have x0:w2.cell? ⟨w.heap.size,0,none⟩=some (.int .i64 rows):=(blk_cell hbm 0).trans rfl;have x1:w2.cell? ⟨w.heap.size,1,none⟩=some (.int .i64 cols):=(blk_cell hbm 1).trans rfl
 go_wp2_with fail
 refine(matrix_blank.calls cols rows _ _ _ _ HBL.out).mono ?_;rintro e w3 ⟨vt,rfl,ho,Y⟩;obtain⟨At,ct,ev⟩:=R_slice ho;rw[List.length_replicate]at ev
 subst ev;have ab:=(Y.block _ (lt_of_get hbm)).trans hbm;have ac:=(Y.block _ (lt_of_get hbr)).trans hbr;have aj:=aK (R_lower ho ah.out.size);have ai:=aK (below_step ah.out Y);clear x0 x1 hbm hbr ho Y;generalize hn:cols*rows=n at*;have HN:=aK hn;clear hn;have x0:w3.cell? ⟨w.heap.size,0,none⟩=some (.int .i64 rows):=(blk_cell ab 0).trans rfl
 go_upto_region 2 with(fail)
 have O:=below_alloc (Below.refl w3.heap.size w3) (.cells #[.int .i64 cols,.int .i64 rows,.slice At n ct] 24);have HT:Aside0 (TS w w.heap.size (w.heap.size+1) w3.heap.size rows cols c A l (.slice At n ct) (midT rows cols l 0 0) (w3.alloc (.cells #[.int .i64 cols,.int .i64 rows,.slice At n ct] 24))):=by
  rw[midT_zero,HN.out];exact⟨(O.block _ (lt_of_get ab)).trans ab,(O.block _ (lt_of_get ac)).trans ac,blk_new _ _,R_below aj.out O,below_step ai.out O,Nat.le_refl _,by omega,ai.out.size⟩
 have hrb:=lt_of_get ac;clear O ab ac aj x0;generalize w3.alloc (.cells #[.int .i64 cols,.int .i64 rows,.slice At n ct] 24)=w4 at*;generalize w3.heap.size=bt at*;have x0:w4.cell? ⟨w.heap.size,0,none⟩=some (.int .i64 rows):=(blk_cell HT.out.hm 0).trans rfl
 go_wp2_with fail
 clear x0
 go_loopg [13] rows (fun kq a3 wr=> ∃(i:Nat),a3= .int .i64 i/\i<=rows/\Aside0 (kq+i=rows)/\Aside0 (TS w w.heap.size (w.heap.size+1) bt rows cols c A l (.slice At n ct) (midT rows cols l i 0) wr))
 case atStart=>exact⟨0,rfl,Nat.zero_le _,⟨by omega⟩,HT⟩
 case round=>
  obtain⟨i,rfl,hi,HK,HO⟩:=hrel;clear HT;by_cases hlt:i<rows
  ·have tst:decide ((i:Int)<(rows:Int))=true:=by simpa using hlt
   have x1:wr.cell? ⟨w.heap.size,1,none⟩=some (.int .i64 cols):=(blk_cell HO.out.hm 1).trans rfl
   go_wp2_with fail
   clear x1
   go_loopg [18] cols (fun kq a4 w5=> ∃(j:Nat),a4= .int .i64 j/\j<=cols/\Aside0 (kq+j=cols)/\Aside0 (TS w w.heap.size (w.heap.size+1) bt rows cols c A l (.slice At n ct) (midT rows cols l i j) w5))
   case atStart=>exact⟨0,rfl,Nat.zero_le _,⟨by omega⟩,HO⟩
   case round=>
    obtain⟨j,rfl,hj,av,D⟩:=hrel;clear HO;by_cases hjl:j<cols
    ·have a6:decide ((j:Int)<(cols:Int))=true:=by simpa using hjl
     go_wp2_with fail
     obtain⟨xb,hxb⟩:=R_head D.out.data (by rw[midT_length];exact Nat.mul_pos za za);subst hxb;have a2:i*cols+j<l.length:=by
      rw[HL.out]
      calc i*cols+j<i*cols+cols:=by omega
       _=(i+1)*cols:=by rw[Nat.add_mul,Nat.one_mul]
       _<=rows*cols:=Nat.mul_le_mul_right _ hlt
     have aq:j*rows+i<(midT rows cols l i j).length:=by
      rw[midT_length]
      calc j*rows+i<j*rows+rows:=by omega
       _=(j+1)*rows:=by rw[Nat.add_mul,Nat.one_mul]
       _<=cols*rows:=Nat.mul_le_mul_right _ hjl
     obtain⟨ad,eA,ar⟩:=Kd.at_int HR.out ((i*cols+j:Nat):Int) za za;subst eA;have au:=pw_cell_below D.out.below ar;obtain⟨ae,af⟩:=R_elt D.out.data aq;have HST:=aK (midT_step (l:=l) hlt hjl);have hx:wr.cell? (ad.add (i*cols+j))=some (.int .u8 (l.getD (i*cols+j) 0)):=by
      rw[show l.getD (i*cols+j) 0=rd l ((i*cols+j:Nat):Int)from by unfold rd;rw[Int.toNat_natCast]];have:=au
      rwa [Int.toNat_natCast]at this
     clear ar au;generalize l.getD (i*cols+j) 0=x at*;obtain⟨f,hf⟩: ∃f:Nat,f=i*cols:=⟨_,rfl⟩
     obtain⟨f2,aa⟩: ∃f2:Nat,f2=(i+1)*cols:=⟨_,rfl⟩
     obtain⟨e,he⟩: ∃e:Nat,e=j*rows:=⟨_,rfl⟩
     obtain⟨e2,Z⟩: ∃e2:Nat,e2=(j+1)*rows:=⟨_,rfl⟩
     have a1:f2=f+cols:=by rw[aa,hf,Nat.add_mul,Nat.one_mul]
     have a0:e2=e+rows:=by rw[Z,he,Nat.add_mul,Nat.one_mul]
     have hfc:f2<=c:=Nat.le_trans (by rw[aa,HL.out];exact Nat.mul_le_mul_right _ hlt) hc;have hec:e2<=ct:=Nat.le_trans (show e2<=n by rw[Z,<-HN.out];exact Nat.mul_le_mul_right _ hjl) (R_reads' D.out.data).2.1;have L:(ad.add f).add j=ad.add (f+j):=by unfold Addr.add;by_cases a:f=0<;>by_cases b:j=0<;>simp[a,b];all_goals omega
     have ax:((⟨xb,0,none⟩:Addr).add e).add i=⟨xb,e+i,none⟩:=by unfold Addr.add;by_cases a:e=0<;>by_cases b:i=0<;>simp[a,b]
     rw[<-hf,<-L]at hx
     rw[<-he]at ae af HST
     have U:=fun W=>matrix_row.calls (cols:Int) rows j n ct e e2 (some ⟨xb,0,none⟩) W he Z hec za h1;have X:=fun W=>matrix_row.calls (rows:Int) cols i l.length c f f2 (some ad) W hf aa hfc za h2;rw[if_neg za]at U X
     simp only[Option.map_some]at U X;have ak:=aK U;have al:=aK X;clear U X hf aa he Z L a1 a0 hfc hec a2 aq;have p0:(0:Int)<=(i:Int):=by omega
     have p1:(i:Int)<(rows:Int):=by omega
     have p2:(0:Int)<=(j:Int):=by omega
     have p3:(j:Int)<(cols:Int):=by omega
     have s0:wr.cell? ⟨bt,0,none⟩=some (.int .i64 cols):=(blk_cell D.out.ht 0).trans rfl;have s1:wr.cell? ⟨bt,1,none⟩=some (.int .i64 rows):=(blk_cell D.out.ht 1).trans rfl;have s2:wr.cell? ⟨bt,2,none⟩=some (.slice (some ⟨xb,0,none⟩) n ct):=(blk_cell D.out.ht 2).trans rfl;have s3:wr.cell? ⟨w.heap.size,0,none⟩=some (.int .i64 rows):=(blk_cell D.out.hm 0).trans rfl;have s4:wr.cell? ⟨w.heap.size,1,none⟩=some (.int .i64 cols):=(blk_cell D.out.hm 1).trans rfl;have s5:wr.cell? ⟨w.heap.size,2,none⟩=some (.slice (some ad) l.length c):=(blk_cell D.out.hm 2).trans rfl;refine start_ (n:=12) (S:=fun w'=>w'.cell? ⟨bt,0,none⟩=some (.int .i64 cols)/\w'.cell? ⟨bt,1,none⟩=some (.int .i64 rows)/\w'.cell? ⟨bt,2,none⟩=some (.slice (some ⟨xb,0,none⟩) n ct)/\w'.cell? ⟨w.heap.size,0,none⟩=some (.int .i64 rows)/\w'.cell? ⟨w.heap.size,1,none⟩=some (.int .i64 cols)/\w'.cell? ⟨w.heap.size,2,none⟩=some (.slice (some ad) l.length c)/\w'.cell? ((ad.add f).add j)=some (.int .u8 x)) (ds:= [11]) (mB 12 0) zc rfl rfl ⟨s0,s1,s2,s3,s4,s5,hx⟩ (fun hHeld=>?_);have am:=aK (D.out.next (below_drew (Below.refl _ _)));have ag:wr.drew.cell? ⟨xb,e+i,none⟩=_:=ae;have ap:wr.drew.frozen? ⟨xb,e+i,none⟩=false:=af;clear D ae af s0 s1 s2 s3 s4 s5 hx;generalize wr.drew=w6 at*;refine zpu 1 (some 22) (mB 12 2) ?_;refine zpu 3 (some 24) (mB 12 10) ?_;refine zpu 5 (some 26) (mB 12 42) ?_;refine zpu 7 (some 28) (mB 12 170) ?_;refine ztk7 0 (some 21) (mB 12 171) hHeld ?_;refine ztk7 4 (some 25) (mB 12 187) hHeld ?_;refine zon 2 (some 23) (mB 12 191) fun K hK=>?_;refine goes_ Tryd.func66 zc rfl #[.agg #[.int .i64 cols,.int .i64 rows,.slice (some ⟨xb,0,none⟩) n ct],.int .i64 j] ze rfl rfl zn ?_;refine(ak.out _).mono ?_;rintro e' w7 ⟨rfl,G⟩;refine⟨_,rfl,?_⟩;refine hK.out _ _ ⟨pw_cell_below G hHeld.1,pw_cell_below G hHeld.2.1,pw_cell_below G hHeld.2.2.1,pw_cell_below G hHeld.2.2.2.1,pw_cell_below G hHeld.2.2.2.2.1,pw_cell_below G hHeld.2.2.2.2.2.1,pw_cell_below G hHeld.2.2.2.2.2.2⟩ (fun hHeld=>?_);clear hK K;refine znm (some 23) ?_;refine zon 6 (some 27) (mB 12 255) fun K hK=>?_;refine goes_ Tryd.func66 zc rfl #[.agg #[.int .i64 rows,.int .i64 cols,.slice (some ad) l.length c],.int .i64 i] ze rfl rfl zn ?_;refine(al.out _).mono ?_;rintro e' w8 ⟨rfl,I⟩;refine⟨_,rfl,?_⟩;have J:=below_step G I;have ay:=pw_cell_below J ag;have az:=(below_frozen J (p:=⟨xb,e+i,none⟩) (World.block_lt_of_cell? _ _ ag)).trans ap;refine hK.out _ _ ⟨pw_cell_below I hHeld.1,pw_cell_below I hHeld.2.1,pw_cell_below I hHeld.2.2.1,pw_cell_below I hHeld.2.2.2.1,pw_cell_below I hHeld.2.2.2.2.1,pw_cell_below I hHeld.2.2.2.2.2.1,pw_cell_below I hHeld.2.2.2.2.2.2⟩ (fun hHeld=>?_);clear hK K;refine znm (some 27) ?_;refine zpu 8 (some 29) (mB 12 511) ?_;refine ztk7 9 (some 30) (mB 12 1023) hHeld ?_;refine zpu 10 (some 31) (mB 12 2047) ?_;refine zln 11 (none) (mB 12 4095) fun K hK=>?_;refine zsk ?_;refine hK.out _ _ ?_;clear hK K;refine done_ zc ?_;clear hHeld;have an:=aK ((am.out.next J).put (e+i) x);rw[HST.out]at an
     clear am J G I ag ap ay az
     go_wp2_with fail
     go_roundg (cols-(j+1))
     case measure=>have:=av.out;omega
     case rel=>exact⟨j+1,by go_num,by omega,⟨by omega⟩,an⟩
    ·obtain rfl:j=cols:=by omega
     go_wp2_with fail
     go_roundg (rows-(i+1))
     case measure=>have:=HK.out;omega
     case rel=>exact⟨i+1,by go_num,by omega,⟨by omega⟩,⟨by rw[<-midT_row];exact D.out⟩⟩
  ·obtain rfl:i=rows:=by omega
   have s0:wr.cell? ⟨bt,0,none⟩=some (.int .i64 cols):=(blk_cell HO.out.ht 0).trans rfl;have s1:wr.cell? ⟨bt,1,none⟩=some (.int .i64 i):=(blk_cell HO.out.ht 1).trans rfl;have s2:wr.cell? ⟨bt,2,none⟩=some (.slice At n ct):=(blk_cell HO.out.ht 2).trans rfl;have y0:wr.cell? ⟨w.heap.size+1,0,none⟩=some (.int .i64 0):=(blk_cell HO.out.hr 0).trans rfl;have y1:wr.cell? ⟨w.heap.size+1,1,none⟩=some (.int .i64 0):=(blk_cell HO.out.hr 1).trans rfl;have y2:wr.cell? ⟨w.heap.size+1,2,none⟩=some (.slice none 0 0):=(blk_cell HO.out.hr 2).trans rfl;have f0:=blk_frozen HO.out.hr 0;have f1:=blk_frozen HO.out.hr 1;have f2:=blk_frozen HO.out.hr 2
   go_wp2_with fail
   refine bodyPost_ret (results_cell_row rfl _ _ (w.heap.size+1) 24 #[.int .i64 cols,.int .i64 i,.slice At n ct] (0,0) _ rfl (blk_put (cs:= #[.int .i64 cols,.int .i64 i,.slice none 0 0]) (blk_put (cs:= #[.int .i64 cols,.int .i64 0,.slice none 0 0]) (blk_put (cs:= #[.int .i64 0,.int .i64 0,.slice none 0 0]) HO.out.hr 0 _ rfl) 1 _ rfl) 2 _ rfl) Tryd.underlying24 rfl zc) rfl ?_;refine⟨_,rfl,⟨?_,?_⟩⟩
   ·rw[<-midT_all];have h1:=R_types HO.out.data HO.out.hr (fun q hq=>by obtain rfl:q=5:=(List.mem_cons.1 hq).elim id (fun hx=>by cases hx);decide);exact R_mono (R_far (R_far (R_far h1 (p:=⟨w.heap.size+1,0,none⟩) (fun k hk=>hk.2) _) (p:=⟨w.heap.size+1,1,none⟩) (fun k hk=>hk.2) _) (p:=⟨w.heap.size+1,2,none⟩) (fun k hk=>hk.2) _) (fun _ _=>trivial)
   ·exact((HO.out.below.setCell zg _).setCell zg _).setCell zg _
def matrix_Transpose.f(a b:Int)(l:List Int):Option (Int×Int×List Int×Int):=(matrix_Right.f a b l).bind fun t=>if t=true then some (b,a,transL a.toNat b.toNat l,0)else some (0,0,[],3)
theorem matrix_Transpose.calls(J:Int)(L:Int)(G:Option Addr)(I:Nat)(D:List Int)(r1:Int)(r2:Int)(r3:List Int)(r4:Int)(w:World)(ae:Kd.C (Kd.int .u8) w G D.length D)(ac:D.length<=I)(h:matrix_Transpose.f J L D=some (r1,r2,r3,r4)):
 Calls Tryd.prog 69 #[.agg #[.int .i64 J,.int .i64 L,.slice G D.length I]] w fun e w'=> ∃v2_:Value,e= .returned (.tuple #[.agg #[.int .i64 r1,.int .i64 r2,v2_],.int .i64 r4])/\Kd.R (Kd.int .u8) 5 w' w.heap.size (fun _=>True) v2_ r3/\Below w.heap.size w w':=by
 have af:=Tryd.underlying24;have HR:=aK ae;have HC:=aK ac;clear ae ac;unfold matrix_Transpose.f at h;obtain⟨t,hm,h⟩:=Option.bind_eq_some_iff.mp h;have HM:=aK hm
 cases t with
 |false=>
  simp only[Bool.false_eq_true,if_false,Option.some.injEq,Prod.mk.injEq]at h;obtain⟨rfl,rfl,rfl,rfl⟩:=h;clear hm
  go_enter Tryd.func69,Tryd.ntmps69
  go_upto_region 1 with(fail)
  have ab:=below_alloc (below_alloc (Below.refl w.heap.size w) (.cells #[.int .i64 J,.int .i64 L,.slice G D.length I] 24)) (.cells #[.int .i64 0,.int .i64 0,.slice none 0 0] 24);have hbm:=heap_alloc2_old w (.cells #[.int .i64 J,.int .i64 L,.slice G D.length I] 24) (.cells #[.int .i64 0,.int .i64 0,.slice none 0 0] 24);have hbr:=blk_new (w.alloc (.cells #[.int .i64 J,.int .i64 L,.slice G D.length I] 24)) (.cells #[.int .i64 0,.int .i64 0,.slice none 0 0] 24);rw[World.size_alloc]at hbr
  have Z:=aK ab;clear ab;generalize(w.alloc (.cells #[.int .i64 J,.int .i64 L,.slice G D.length I] 24)).alloc (.cells #[.int .i64 0,.int .i64 0,.slice none 0 0] 24)=w2 at*;have x0:w2.cell? ⟨w.heap.size,0,none⟩=some (.int .i64 J):=(blk_cell hbm 0).trans rfl;have x1:w2.cell? ⟨w.heap.size,1,none⟩=some (.int .i64 L):=(blk_cell hbm 1).trans rfl;have x2:w2.cell? ⟨w.heap.size,2,none⟩=some (.slice G D.length I):=(blk_cell hbm 2).trans rfl
  go_wp2_with fail
  refine(matrix_Right.calls J L G I D false _ (C_below HR.out Z.out) HC.out HM.out).mono ?_;rintro e w3 ⟨rfl,U⟩;have O:=(U.block _ (lt_of_get hbr)).trans hbr;have X:=(U.block _ (lt_of_get hbm)).trans hbm;have aa:=aK (below_step Z.out U);clear x0 x1 x2 hbr hbm U;have x0:w3.cell? ⟨w.heap.size,0,none⟩=some (.int .i64 J):=(blk_cell X 0).trans rfl;have x1:w3.cell? ⟨w.heap.size,1,none⟩=some (.int .i64 L):=(blk_cell X 1).trans rfl;have x2:w3.cell? ⟨w.heap.size,2,none⟩=some (.slice G D.length I):=(blk_cell X 2).trans rfl;have y0:w3.cell? ⟨w.heap.size+1,0,none⟩=some (.int .i64 0):=(blk_cell O 0).trans rfl;have y1:w3.cell? ⟨w.heap.size+1,1,none⟩=some (.int .i64 0):=(blk_cell O 1).trans rfl;have y2:w3.cell? ⟨w.heap.size+1,2,none⟩=some (.slice none 0 0):=(blk_cell O 2).trans rfl;have f0:=blk_frozen O 0;have f1:=blk_frozen O 1;have f2:=blk_frozen O 2;clear x0 x1 x2 X
  go_wp2_with fail
  refine bodyPost_ret (results_ct rfl _ _ (w.heap.size+1) 24 #[.int .i64 0,.int .i64 0,.slice none 0 0] (0,0) _ rfl (blk_put (cs:= #[.int .i64 0,.int .i64 0,.slice none 0 0]) (blk_put (cs:= #[.int .i64 0,.int .i64 0,.slice none 0 0]) (blk_put (cs:= #[.int .i64 0,.int .i64 0,.slice none 0 0]) O 0 _ rfl) 1 _ rfl) 2 _ rfl) Tryd.underlying24 rfl zc) rfl ?_;refine⟨_,rfl,R_nil _ _ _ _ _,?_⟩;exact((aa.out.setCell zg _).setCell zg _).setCell zg _
 |true=>
  obtain⟨e0,e1,e2,e3,hl⟩:=right_true hm;rw[if_pos rfl]at h
  simp only[Option.some.injEq,Prod.mk.injEq]at h;obtain⟨rows,rfl⟩:=Int.eq_ofNat_of_zero_le e0;obtain⟨cols,rfl⟩:=Int.eq_ofNat_of_zero_le e2;rw[Int.toNat_natCast,Int.toNat_natCast]at h hl
  obtain⟨rfl,rfl,rfl,rfl⟩:=h;have hrw:rows<=64/\cols<=64:=by omega
  have HL:=aK hl;obtain⟨F,hF⟩: ∃F,F=transL rows cols D:=⟨_,rfl⟩
  rw[<-hF];have HF:=aK hF;clear hm hl e0 e1 e2 e3 hF
  go_enter Tryd.func69,Tryd.ntmps69
  go_upto_region 1 with(fail)
  have ab:=below_alloc (below_alloc (Below.refl w.heap.size w) (.cells #[.int .i64 (rows:Int),.int .i64 (cols:Int),.slice G D.length I] 24)) (.cells #[.int .i64 0,.int .i64 0,.slice none 0 0] 24);have hbm:=heap_alloc2_old w (.cells #[.int .i64 (rows:Int),.int .i64 (cols:Int),.slice G D.length I] 24) (.cells #[.int .i64 0,.int .i64 0,.slice none 0 0] 24);have hbr:=blk_new (w.alloc (.cells #[.int .i64 (rows:Int),.int .i64 (cols:Int),.slice G D.length I] 24)) (.cells #[.int .i64 0,.int .i64 0,.slice none 0 0] 24);rw[World.size_alloc]at hbr
  have Z:=aK ab;clear ab;generalize(w.alloc (.cells #[.int .i64 (rows:Int),.int .i64 (cols:Int),.slice G D.length I] 24)).alloc (.cells #[.int .i64 0,.int .i64 0,.slice none 0 0] 24)=w2 at*;have x0:w2.cell? ⟨w.heap.size,0,none⟩=some (.int .i64 (rows:Int)):=(blk_cell hbm 0).trans rfl;have x1:w2.cell? ⟨w.heap.size,1,none⟩=some (.int .i64 (cols:Int)):=(blk_cell hbm 1).trans rfl;have x2:w2.cell? ⟨w.heap.size,2,none⟩=some (.slice G D.length I):=(blk_cell hbm 2).trans rfl
  go_wp2_with fail
  refine(matrix_Right.calls (rows:Int) (cols:Int) G I D true _ (C_below HR.out Z.out) HC.out HM.out).mono ?_;rintro e w3 ⟨rfl,U⟩;have O:=(U.block _ (lt_of_get hbr)).trans hbr;have X:=(U.block _ (lt_of_get hbm)).trans hbm;have aa:=aK (below_step Z.out U);clear x0 x1 x2 hbr hbm U;have x0:w3.cell? ⟨w.heap.size,0,none⟩=some (.int .i64 (rows:Int)):=(blk_cell X 0).trans rfl;have x1:w3.cell? ⟨w.heap.size,1,none⟩=some (.int .i64 (cols:Int)):=(blk_cell X 1).trans rfl;have x2:w3.cell? ⟨w.heap.size,2,none⟩=some (.slice G D.length I):=(blk_cell X 2).trans rfl
  go_wp2_with fail
  refine(matrix_turned.calls rows cols G I D w3 (C_below HR.out aa.out) HC.out HL.out hrw).mono ?_;rintro e w4 ⟨v,rfl,hq⟩;rw[<-HF.out]at hq
  obtain⟨Av,cv,ev⟩:=R_slice hq.out.1;subst ev;have Y:=(hq.out.2.block _ (lt_of_get O)).trans O;have hrl:=lt_of_get O;have HQ:=aK hq.out;clear hq O X x0 x1 x2;have y0:w4.cell? ⟨w.heap.size+1,0,none⟩=some (.int .i64 0):=(blk_cell Y 0).trans rfl;have y1:w4.cell? ⟨w.heap.size+1,1,none⟩=some (.int .i64 0):=(blk_cell Y 1).trans rfl;have y2:w4.cell? ⟨w.heap.size+1,2,none⟩=some (.slice none 0 0):=(blk_cell Y 2).trans rfl;have f0:=blk_frozen Y 0;have f1:=blk_frozen Y 1;have f2:=blk_frozen Y 2
  go_wp2_with fail
  refine bodyPost_ret (results_ct rfl _ _ (w.heap.size+1) 24 #[.int .i64 cols,.int .i64 rows,.slice Av F.length cv] (0,0) _ rfl (blk_put (cs:= #[.int .i64 cols,.int .i64 rows,.slice none 0 0]) (blk_put (cs:= #[.int .i64 cols,.int .i64 0,.slice none 0 0]) (blk_put (cs:= #[.int .i64 0,.int .i64 0,.slice none 0 0]) Y 0 _ rfl) 1 _ rfl) 2 _ rfl) Tryd.underlying24 rfl zc) rfl ?_;refine⟨_,rfl,?_,?_⟩
  ·have h1:=R_lower (R_bound HQ.out.1) aa.out.size;exact R_mono (R_far (R_far (R_far h1 (p:=⟨w.heap.size+1,0,none⟩) (fun k hk=>by show k≠w.heap.size+1;have:=hk.2.1;omega) _) (p:=⟨w.heap.size+1,1,none⟩) (fun k hk=>by show k≠w.heap.size+1;have:=hk.2.1;omega) _) (p:=⟨w.heap.size+1,2,none⟩) (fun k hk=>by show k≠w.heap.size+1;have:=hk.2.1;omega) _) (fun _ _=>trivial)
  ·exact(((below_step aa.out HQ.out.2).setCell zg _).setCell zg _).setCell zg _
theorem copy_step{P:Program}{ops:Array Oper}{o:Oper}{a:Act}{w:World}{K:Act->World->Prop}{Q:Exit->Act->World->Prop}{E:Prop}(hgd:o.guard=none)(d s:Operand)(dT sT:TypeId)
 (ho:o.op= .call { callee:= .builtin .copy,args:= #[d,s],argTypes:= #[dT,sT] }) (elem:TypeId) (hu:P.underlying dT=some (.slice elem)) (hsz:(P.info? elem).map (·.size)=some 1)
 (dp sp:Option Addr) (dLen dCap sLen sCap:Nat) (hd:a.eval d= .slice dp dLen dCap) (hs:a.eval s= .slice sp sLen sCap) (n:Nat) (hn:n=Nat.min sLen dLen) (F:World->Prop) (h0:n=0->F w)
 (hpos:0<n-> ∃(g off:Nat) (cur:List Value) (t:TypeId) (cs:List Value) (ad:Addr),w.heap[g]? =some (.cells cur.toArray t (0,0))/\cs.length=n/\dp=some ⟨g,off,none⟩/\sp=some ad/\(∀j v,cs[j]? =some v->w.cell? (ad.add j)=some v)/\off+cs.length<=cur.length/\(∀v∈cs,v.oneCell'=true)/\
  ∀w',w'.heap[g]? =some (.cells (splice cur off cs).toArray t (0,0))->w.grownBy w' (some g)->F w')
 (h: ∀w',F w'->K (a.put o.dst (goInt n)) w'):if Region.wanted o (yielded ops a.tmps)=true then Oper.wp P o a w K Q else E:=by
 have hw:Region.wanted o (yielded ops a.tmps)=true:=by simp[Region.wanted,hgd]
 rw[if_pos hw];rcases Nat.eq_zero_or_pos n with e|e
 ·have hrun:=run_copy_none (P:=P) w dT sT o.type elem dp sp dLen dCap sLen sCap hu hsz za;subst e;unfold Oper.wp;simp[execOp,ho,resolve,invoke,builtin,hd,hs,hrun,Result.andThen];exact h w (h0 rfl)
 ·obtain⟨g,off,cur,t,cs,ad,hg,hcl,rfl,rfl,hsrc,hfit,h1,hF⟩:=hpos e;have hrun:=run_copy_row (P:=P) w dT sT o.type elem g off dLen dCap ad sLen sCap cur.toArray t cs hu hsz hg (hcl.trans hn) hsrc (by simpa using hfit) h1;subst hcl;unfold Oper.wp;simp[execOp,ho,resolve,invoke,builtin,hd,hs,hrun,Result.andThen];refine h _ (hF _ (by simpa[splice]using setRow_heap w g _ _ t _ hg) ⟨rfl,rfl,rfl,by simp[World.setRow],fun k _ hk=>setRow_other w g k _ (fun e=>hk (by rw[e]))⟩)
theorem R_cur{w:World}{base:Nat}{ok:Nat->Prop}{g n c:Nat}{L:List Int}(h:Kd.R (Kd.int .u8) 5 w base ok (.slice (some ⟨g,0,none⟩) n c) L): ∃cur:List Value,w.heap[g]? =some (.cells cur.toArray 5 (0,0))/\cur.length=c/\n<=c/\n=L.length/\base<=g/\cur.take n=nums .u8 L/\c<=maxLen:=by
 have ho:=Kd.own_of_R h;rcases ho.2 with⟨h',_⟩|⟨g',cap',cur,h',D,hh,hle,hm,hsz,htk⟩
 ·cases h'
 ·injection h' with h1 h2 h3;injection h1 with h1;injection h1 with h1;subst h1 h2 h3;refine⟨cur.toList,by simpa using hh,by simpa using hsz,hle,rfl,D,?_,hm⟩;simpa[nums,encs]using htk
theorem R_splice{w w1:World}{base:Nat}{ok:Nat->Prop}{g n c off:Nat}{L seg:List Int}{cur:List Value}(h:Kd.R (Kd.int .u8) 5 w base ok (.slice (some ⟨g,0,none⟩) n c) L)(hg:w.heap[g]? =some (.cells cur.toArray 5 (0,0)))(hfit:off+seg.length<=L.length)
 (h1:w1.heap[g]? =some (.cells (splice cur off (nums .u8 seg)).toArray 5 (0,0))):Kd.R (Kd.int .u8) 5 w1 base ok (.slice (some ⟨g,0,none⟩) n c) (splice L off seg):=by
 obtain⟨cur',D,I,X,J,O,G,U⟩:=R_cur h;rw[hg]at D
 injection D with D;injection D with D;have hce:cur=cur':=by simpa using congrArg Array.toList D
 subst hce;have hls:(splice L off seg).length=n:=by rw[length_splice _ _ _ hfit,J]
 have hlc:(splice cur off (nums .u8 seg)).length=c:=by rw[length_splice _ _ _ (by simp[nums];omega),I]
 refine Kd.R_of_own ⟨by simp[encs],.inr ⟨g,c,(splice cur off (nums .u8 seg)).toArray,by rw[hls],O,h1,by omega,U,by simpa using hlc,?_⟩⟩ h.1;rw[hls,Nat.mul_one];show(splice cur off (nums .u8 seg)).take n=(splice L off seg).map _;unfold splice;rw[List.take_append,List.take_append,List.map_append,List.map_append];have e1:(nums .u8 seg).length=seg.length:=by simp[nums]
 rw[List.take_take,Nat.min_eq_right za,List.length_take,Nat.min_eq_left za,List.take_of_length_le (l:=nums .u8 seg) za,e1,List.take_drop];have e2:off+seg.length+(n-off-seg.length)=n:=by omega
 rw[e2];have e3:cur.take off=(L.take off).map (fun x=>Value.int .u8 x):=by
  have:(cur.take n).take off=(nums .u8 L).take off:=by rw[G]
  rw[List.take_take,Nat.min_eq_left za]at this
  rw[this,nums,List.map_take]
 have e4:(cur.take n).drop (off+seg.length)=(L.drop (off+seg.length)).map (fun x=>Value.int .u8 x):=by
  rw[G,nums,List.map_drop]
 rw[e3,e4];rfl
def segP(cols:Nat)(l:List Int)(i:Int):List Int:=(l.drop (i.toNat*cols)).take cols
def pickL(cols:Nat)(l:List Int)(L:List Int):List Int:=(L.map (segP cols l)).flatten
def midP(cols:Nat)(l:List Int)(L:List Int)(k:Nat):List Int:=pickL cols l (L.take k)++List.replicate ((L.length-k)*cols) 0
theorem pickL_length{cols rows:Nat}{l:List Int}(hl:l.length=rows*cols): ∀L:List Int,(∀x,x∈L->0<=x/\x<(rows:Int))->(pickL cols l L).length=L.length*cols
 | [],_=>by simp[pickL]
 |x::L,h=>by
  have ih:=pickL_length hl L fun y hy=>h y (List.mem_cons_of_mem _ hy);have hx:=h x (List.mem_cons_self ..);have hle:x.toNat*cols+cols<=l.length:=by rw[hl,<-Nat.succ_mul];exact Nat.mul_le_mul_right _ za
  unfold pickL at ih⊢;rw[List.map_cons,List.flatten_cons,List.length_append,ih,List.length_cons,Nat.add_mul,Nat.one_mul];unfold segP;simp;omega
theorem midP_zero(cols:Nat)(l L:List Int):midP cols l L 0=List.replicate (L.length*cols) 0:=by simp[midP,pickL]
theorem midP_all(cols:Nat)(l L:List Int):midP cols l L L.length=pickL cols l L:=by simp[midP]
theorem segP_length{cols rows:Nat}{l:List Int}(hl:l.length=rows*cols){x:Int}(h:0<=x/\x<(rows:Int)):(segP cols l x).length=cols:=by
 have hle:x.toNat*cols+cols<=l.length:=by rw[hl,<-Nat.succ_mul];exact Nat.mul_le_mul_right _ za
 unfold segP;simp;omega
theorem midP_length{cols rows:Nat}{l L:List Int}(hl:l.length=rows*cols)(h: ∀x,x∈L->0<=x/\x<(rows:Int)){k:Nat}(hk:k<=L.length):(midP cols l L k).length=L.length*cols:=by
 unfold midP;rw[List.length_append,pickL_length hl _ (fun x hx=>h x (List.mem_of_mem_take hx)),List.length_take,Nat.min_eq_left hk,List.length_replicate,<-Nat.add_mul]
 congr 1
 omega
theorem midP_step{cols rows:Nat}{l L:List Int}(hl:l.length=rows*cols)(h: ∀x,x∈L->0<=x/\x<(rows:Int)){k:Nat}(hk:k<L.length):splice (midP cols l L k) (k*cols) (segP cols l (L.getD k 0))=midP cols l L (k+1):=by
 have hp:=pickL_length hl (L.take k) (fun x hx=>h x (List.mem_of_mem_take hx));rw[List.length_take,Nat.min_eq_left za]at hp
 have hx:0<=L.getD k 0/\L.getD k 0<(rows:Int):=by
  rw[List.getD_eq_getElem?_getD,List.getElem?_eq_getElem hk];exact h _ (List.getElem_mem hk)
 have hs:=segP_length hl hx;unfold splice midP;rw[hs,List.take_append,hp,Nat.sub_self,List.take_zero,List.append_nil,List.take_of_length_le za,List.drop_append,List.drop_of_length_le za,List.nil_append,hp,List.drop_replicate];rw[List.take_succ_eq_append_getElem hk];unfold pickL;rw[List.map_append,List.flatten_append,List.append_assoc]
 congr 1
 rw[List.getD_eq_getElem?_getD,List.getElem?_eq_getElem hk];simp only[List.map_cons,List.map_nil,List.flatten_cons,List.flatten_nil,List.append_nil,Option.getD_some]
 congr 2
 have:(L.length-k)*cols=(L.length-(k+1))*cols+cols:=by
  rw[show L.length-k=L.length-(k+1)+1 from by omega,Nat.add_mul,Nat.one_mul]
 omega
structure PS (w:World) (bm rb bt rows cols c:Nat) (o0 o1:Int) (A:Option Addr) (l:List Int) (vt:Value) (L:List Int) (wr:World):Prop where
 hm:wr.heap[bm]? =some (.cells #[.int .i64 rows,.int .i64 cols,.slice A l.length c] 24 (0,0))
 hr:wr.heap[rb]? =some (.cells #[.int .i64 0,.int .i64 0,.slice none 0 0] 24 (0,0))
 ht:wr.heap[bt]? =some (.cells #[.int .i64 o0,.int .i64 o1,vt] 24 (0,0))
 data:Kd.R (Kd.int .u8) 5 wr w.heap.size (fun _=>True) vt L
 below:Below w.heap.size w wr
 n1:w.heap.size<=bm
 n2:w.heap.size<=rb
 n3:w.heap.size<=bt
theorem PS.next{w:World}{bm rb bt rows cols c:Nat}{o0 o1:Int}{A:Option Addr}{l:List Int}{vt:Value}{L:List Int}{wr w1:World}(h:PS w bm rb bt rows cols c o0 o1 A l vt L wr)(hb:Below wr.heap.size wr w1):PS w bm rb bt rows cols c o0 o1 A l vt L w1:=
 ⟨(hb.block _ (lt_of_get h.hm)).trans h.hm,(hb.block _ (lt_of_get h.hr)).trans h.hr,(hb.block _ (lt_of_get h.ht)).trans h.ht,R_below h.data hb,below_step h.below hb,h.n1,h.n2,h.n3⟩
theorem PS.splice{w:World}{bm rb bt rows cols c xb n cx off:Nat}{o0 o1:Int}{A:Option Addr}{l:List Int}{L seg:List Int}{cur:List Value}{wr w1:World}(h:PS w bm rb bt rows cols c o0 o1 A l (.slice (some ⟨xb,0,none⟩) n cx) L wr)(hg:wr.heap[xb]? =some (.cells cur.toArray 5 (0,0)))(hfit:off+seg.length<=L.length)
 (h1:w1.heap[xb]? =some (.cells (splice cur off (nums .u8 seg)).toArray 5 (0,0))) (hgr:wr.grownBy w1 (some xb)):PS w bm rb bt rows cols c o0 o1 A l (.slice (some ⟨xb,0,none⟩) n cx) (splice L off seg) w1:=by
 have hx:w.heap.size<=xb:=((R_bound h.data).1 xb rfl).2.1;have hne: ∀(a:Nat) (ca:Array Value),wr.heap[a]? =some (.cells ca 24 (0,0))->a≠xb:=fun a ca hq e=>by
  subst e;rw[hq]at hg
  injection hg with hc;injection hc with _ hc;exact absurd hc zb
 have blk: ∀(a:Nat) (ca:Array Value),wr.heap[a]? =some (.cells ca 24 (0,0))->w1.heap[a]? =some (.cells ca 24 (0,0)):=fun a ca h1=>(hgr.block a (lt_of_get h1) (by simpa using hne a ca h1)).trans h1;exact⟨blk _ _ h.hm,blk _ _ h.hr,blk _ _ h.ht,R_splice h.data hg hfit h1,h.below.grown hgr h.below.size (fun k hk=>by injection hk with hk;omega),h.n1,h.n2,h.n3⟩
def inB(a:Int)(L:List Int):Bool:=L.all fun x=>decide (0<=x)&&decide (x<a)
def matrix_Pick.f(a b:Int)(l L:List Int):Option (Int×Int×List Int×Int):=
 (matrix_Right.f a b l).bind fun t=>if t=true then(if inB a L=true then(if L.length<=64 then some ((L.length:Int),b,pickL b.toNat l L,0)else some (0,0,[],4))else some (0,0,[],2))else some (0,0,[],3)
theorem matrix_Pick.calls(L:Int)(O:Int)(G:Option Addr)(I:Nat)(D:List Int)(A1:Option Addr)(c1:Nat)(l1:List Int)(r1:Int)(r2:Int)(r3:List Int)(r4:Int)(w:World)(ah:Kd.C (Kd.int .u8) w G D.length D)(ag:D.length<=I)(a1:Kd.C (Kd.int .i64) w A1 l1.length l1)(az:l1.length<=c1)(h:matrix_Pick.f L O D l1=some (r1,r2,r3,r4)):
 Calls Tryd.prog 34 #[.agg #[.int .i64 L,.int .i64 O,.slice G D.length I],.slice A1 l1.length c1] w fun e w'=> ∃v2_:Value,e= .returned (.tuple #[.agg #[.int .i64 r1,.int .i64 r2,v2_],.int .i64 r4])/\Kd.R (Kd.int .u8) 5 w' w.heap.size (fun _=>True) v2_ r3/\Below w.heap.size w w':=by
 have bj:=Tryd.underlying24;have HR:=aK ah;have HC:=aK ag;have aw:=aK a1;clear ah ag a1;unfold matrix_Pick.f at h;obtain⟨t,hm,h⟩:=Option.bind_eq_some_iff.mp h;have HM:=aK hm
 cases t with
 |false=>
  simp only[Bool.false_eq_true,if_false,Option.some.injEq,Prod.mk.injEq]at h;obtain⟨rfl,rfl,rfl,rfl⟩:=h;clear hm
  go_enter Tryd.func34,Tryd.ntmps34
  go_upto_region 1 with(fail)
  have af:=below_alloc (below_alloc (Below.refl w.heap.size w) (.cells #[.int .i64 L,.int .i64 O,.slice G D.length I] 24)) (.cells #[.int .i64 0,.int .i64 0,.slice none 0 0] 24);have hbm:=heap_alloc2_old w (.cells #[.int .i64 L,.int .i64 O,.slice G D.length I] 24) (.cells #[.int .i64 0,.int .i64 0,.slice none 0 0] 24);have hbr:=blk_new (w.alloc (.cells #[.int .i64 L,.int .i64 O,.slice G D.length I] 24)) (.cells #[.int .i64 0,.int .i64 0,.slice none 0 0] 24);rw[World.size_alloc]at hbr
  have ac:=aK af;clear af;generalize(w.alloc (.cells #[.int .i64 L,.int .i64 O,.slice G D.length I] 24)).alloc (.cells #[.int .i64 0,.int .i64 0,.slice none 0 0] 24)=w2 at*;have x0:w2.cell? ⟨w.heap.size,0,none⟩=some (.int .i64 L):=(blk_cell hbm 0).trans rfl;have x1:w2.cell? ⟨w.heap.size,1,none⟩=some (.int .i64 O):=(blk_cell hbm 1).trans rfl;have x2:w2.cell? ⟨w.heap.size,2,none⟩=some (.slice G D.length I):=(blk_cell hbm 2).trans rfl
  go_wp2_with fail
  refine(matrix_Right.calls L O G I D false _ (C_below HR.out ac.out) HC.out HM.out).mono ?_;rintro e w3 ⟨rfl,Z⟩;have J:=(Z.block _ (lt_of_get hbr)).trans hbr;have X:=(Z.block _ (lt_of_get hbm)).trans hbm;have ab:=aK (below_step ac.out Z);clear x0 x1 x2 hbr hbm Z;have x0:w3.cell? ⟨w.heap.size,0,none⟩=some (.int .i64 L):=(blk_cell X 0).trans rfl;have x1:w3.cell? ⟨w.heap.size,1,none⟩=some (.int .i64 O):=(blk_cell X 1).trans rfl;have x2:w3.cell? ⟨w.heap.size,2,none⟩=some (.slice G D.length I):=(blk_cell X 2).trans rfl;have y0:w3.cell? ⟨w.heap.size+1,0,none⟩=some (.int .i64 0):=(blk_cell J 0).trans rfl;have y1:w3.cell? ⟨w.heap.size+1,1,none⟩=some (.int .i64 0):=(blk_cell J 1).trans rfl;have y2:w3.cell? ⟨w.heap.size+1,2,none⟩=some (.slice none 0 0):=(blk_cell J 2).trans rfl;have f0:=blk_frozen J 0;have f1:=blk_frozen J 1;have f2:=blk_frozen J 2;clear x0 x1 x2 X
  go_wp2_with fail
  refine bodyPost_ret (results_ct rfl _ _ (w.heap.size+1) 24 #[.int .i64 0,.int .i64 0,.slice none 0 0] (0,0) _ rfl (blk_put (cs:= #[.int .i64 0,.int .i64 0,.slice none 0 0]) (blk_put (cs:= #[.int .i64 0,.int .i64 0,.slice none 0 0]) (blk_put (cs:= #[.int .i64 0,.int .i64 0,.slice none 0 0]) J 0 _ rfl) 1 _ rfl) 2 _ rfl) Tryd.underlying24 rfl zc) rfl ?_;refine⟨_,rfl,R_nil _ _ _ _ _,?_⟩;exact((ab.out.setCell zg _).setCell zg _).setCell zg _
 |true=>
  obtain⟨e0,e1,e2,e3,hl⟩:=right_true hm;rw[if_pos rfl]at h
  obtain⟨rows,rfl⟩:=Int.eq_ofNat_of_zero_le e0;obtain⟨cols,rfl⟩:=Int.eq_ofNat_of_zero_le e2;rw[Int.toNat_natCast,Int.toNat_natCast]at hl
  rw[Int.toNat_natCast]at h
  have hrw:rows<=64/\cols<=64:=by omega
  have HL:=aK hl;have HRES:=aK h;clear hm hl e0 e1 e2 e3 h
  go_enter Tryd.func34,Tryd.ntmps34
  go_upto_region 1 with(fail)
  have af:=below_alloc (below_alloc (Below.refl w.heap.size w) (.cells #[.int .i64 (rows:Int),.int .i64 (cols:Int),.slice G D.length I] 24)) (.cells #[.int .i64 0,.int .i64 0,.slice none 0 0] 24);have hbm:=heap_alloc2_old w (.cells #[.int .i64 (rows:Int),.int .i64 (cols:Int),.slice G D.length I] 24) (.cells #[.int .i64 0,.int .i64 0,.slice none 0 0] 24);have hbr:=blk_new (w.alloc (.cells #[.int .i64 (rows:Int),.int .i64 (cols:Int),.slice G D.length I] 24)) (.cells #[.int .i64 0,.int .i64 0,.slice none 0 0] 24);rw[World.size_alloc]at hbr
  have ac:=aK af;clear af;generalize(w.alloc (.cells #[.int .i64 (rows:Int),.int .i64 (cols:Int),.slice G D.length I] 24)).alloc (.cells #[.int .i64 0,.int .i64 0,.slice none 0 0] 24)=w2 at*;have x0:w2.cell? ⟨w.heap.size,0,none⟩=some (.int .i64 (rows:Int)):=(blk_cell hbm 0).trans rfl;have x1:w2.cell? ⟨w.heap.size,1,none⟩=some (.int .i64 (cols:Int)):=(blk_cell hbm 1).trans rfl;have x2:w2.cell? ⟨w.heap.size,2,none⟩=some (.slice G D.length I):=(blk_cell hbm 2).trans rfl
  go_wp2_with fail
  refine(matrix_Right.calls (rows:Int) (cols:Int) G I D true _ (C_below HR.out ac.out) HC.out HM.out).mono ?_;rintro e w3 ⟨rfl,Z⟩;have J:=(Z.block _ (lt_of_get hbr)).trans hbr;have X:=(Z.block _ (lt_of_get hbm)).trans hbm;have ab:=aK (below_step ac.out Z);clear x0 x1 x2 hbr hbm Z;have x0:w3.cell? ⟨w.heap.size,0,none⟩=some (.int .i64 (rows:Int)):=(blk_cell X 0).trans rfl;have x1:w3.cell? ⟨w.heap.size,1,none⟩=some (.int .i64 (cols:Int)):=(blk_cell X 1).trans rfl;have x2:w3.cell? ⟨w.heap.size,2,none⟩=some (.slice G D.length I):=(blk_cell X 2).trans rfl;have y0:w3.cell? ⟨w.heap.size+1,0,none⟩=some (.int .i64 0):=(blk_cell J 0).trans rfl;have y1:w3.cell? ⟨w.heap.size+1,1,none⟩=some (.int .i64 0):=(blk_cell J 1).trans rfl;have y2:w3.cell? ⟨w.heap.size+1,2,none⟩=some (.slice none 0 0):=(blk_cell J 2).trans rfl;have f0:=blk_frozen J 0;have f1:=blk_frozen J 1;have f2:=blk_frozen J 2
  go_wp2_with fail
  have HSZ:=aK (show l1.length<=9223372036854775807 from(Kd.reads_of_C (enc:=Value.int .i64) (d:=(0:Int)) (h1:=fun _=>rfl) aw.out).2.1);have hsz:=HSZ.out
  go_loopg [17] l1.length (fun kq bf wr=> ∃(k:Nat),bf= .int .i64 k/\k<=l1.length/\Aside0 (kq+k=l1.length)/\Aside0 (∀j,j<k->0<=l1.getD j 0/\l1.getD j 0<(rows:Int))/\wr=w3)
  case atStart=>exact⟨0,rfl,Nat.zero_le _,⟨by omega⟩,⟨fun j h=>by omega⟩,rfl⟩
  case round=>
   obtain⟨k,rfl,hk,HK,HALL,rfl⟩:=hrel;by_cases hkl:k<l1.length
   ·have tst:decide ((k:Int)<(l1.length:Int))=true:=by simpa using hkl
    obtain⟨ay,eA,ai⟩:=Kd.at_int aw.out (k:Int) za za;subst eA;have hx:wr.cell? (ay.add k)=some (.int .i64 (l1.getD k 0)):=by
     rw[show l1.getD k 0=rd l1 (k:Int)from by simp[rd]];have:=pw_cell_below ab.out ai;simpa using this
    obtain⟨x,ex⟩: ∃x,x=l1.getD k 0:=⟨_,rfl⟩
    rw[<-ex]at hx
    have EX:=aK ex;clear ex ai;have bc:(0:Int)<=(k:Int):=by omega
    have bd:(k:Int)<(l1.length:Int):=by omega
    by_cases hin:0<=x/\x<(rows:Int)
    ·have t1:decide (x<0)=false:=by simpa using hin.1
     have t2:decide ((rows:Int)<=x)=false:=by simpa using hin.2
     have t3:decide (x>=(rows:Int))=false:=by simpa using hin.2
     have HIN:=aK hin;obtain⟨bh,bi⟩:=hin
     go_wp2_with fail
     go_roundg (l1.length-(k+1))
     case measure=>have:=HK.out;omega
     case rel=>
      refine⟨k+1,by go_num,by omega,⟨by omega⟩,⟨fun j hj=>?_⟩,rfl⟩;rcases Nat.lt_or_eq_of_le (Nat.le_of_lt_succ hj)with h|h
      ·exact HALL.out j h
      ·rw[h,<-EX.out];exact HIN.out
    ·have hbad:inB (rows:Int) l1=false:=by
      rw[inB,Bool.eq_false_iff];intro hall;apply hin;have:=List.all_eq_true.1 hall _ (List.getElem_mem hkl);rw[EX.out,List.getD_eq_getElem?_getD,List.getElem?_eq_getElem hkl];simpa using this
     have hres:=HRES.out;rw[hbad,if_neg zd]at hres
     simp only[Option.some.injEq,Prod.mk.injEq]at hres;obtain⟨rfl,rfl,rfl,rfl⟩:=hres;have f0:=blk_frozen J 0;have f1:=blk_frozen J 1;have f2:=blk_frozen J 2;by_cases hneg:x<0
     ·have t1:decide (x<0)=true:=by simpa using hneg
      clear hin
      go_wp2_with fail
      refine bodyPost_ret (results_ct rfl _ _ (w.heap.size+1) 24 #[.int .i64 0,.int .i64 0,.slice none 0 0] (0,0) _ rfl (blk_put (cs:= #[.int .i64 0,.int .i64 0,.slice none 0 0]) (blk_put (cs:= #[.int .i64 0,.int .i64 0,.slice none 0 0]) (blk_put (cs:= #[.int .i64 0,.int .i64 0,.slice none 0 0]) J 0 _ rfl) 1 _ rfl) 2 _ rfl) Tryd.underlying24 rfl zc) rfl ?_;exact⟨_,rfl,R_nil _ _ _ _ _,((ab.out.setCell zg _).setCell zg _).setCell zg _⟩
     ·have t1:decide (x<0)=false:=by simpa using hneg
      have hge:(rows:Int)<=x:=by omega
      have t2:decide ((rows:Int)<=x)=true:=by simpa using hge
      have t3:decide (x>=(rows:Int))=true:=by simpa using hge
      clear hin
      go_wp2_with fail
      refine bodyPost_ret (results_ct rfl _ _ (w.heap.size+1) 24 #[.int .i64 0,.int .i64 0,.slice none 0 0] (0,0) _ rfl (blk_put (cs:= #[.int .i64 0,.int .i64 0,.slice none 0 0]) (blk_put (cs:= #[.int .i64 0,.int .i64 0,.slice none 0 0]) (blk_put (cs:= #[.int .i64 0,.int .i64 0,.slice none 0 0]) J 0 _ rfl) 1 _ rfl) 2 _ rfl) Tryd.underlying24 rfl zc) rfl ?_;exact⟨_,rfl,R_nil _ _ _ _ _,((ab.out.setCell zg _).setCell zg _).setCell zg _⟩
   ·obtain rfl:k=l1.length:=by omega
    have hgood:inB (rows:Int) l1=true:=by
     rw[inB,List.all_eq_true];intro y hy;obtain⟨j,hj,rfl⟩:=List.mem_iff_getElem.1 hy;have:=HALL.out j hj;rw[List.getD_eq_getElem?_getD,List.getElem?_eq_getElem hj]at this
     simpa using this
    have hres:=HRES.out;rw[hgood,if_pos rfl]at hres
    have HMEM:=aK (show∀y,y∈l1->0<=y/\y<(rows:Int)from fun y hy=>by
     have:=List.all_eq_true.1 hgood y hy;simpa using this)
    clear hgood;have hside:matrix_side.f ((l1.length:Nat):Int)=some (decide ((l1.length:Int)<=64)):=by
     unfold matrix_side.f;rw[if_pos za]
    go_wp2_with fail
    refine(matrix_side.calls _ _ _ hside).mono ?_;rintro e w4 ⟨rfl,nd,rfl⟩;have ak:Below wr.heap.size wr (wr.drewN nd):=pw_below_drewN (Below.refl _ _) nd;have ao:=(ak.block _ (lt_of_get X)).trans X;have Y:=(ak.block _ (lt_of_get J)).trans J;have au:=aK (below_step ab.out ak);clear ak x0 x1 x2 y0 y1 y2 f0 f1 f2 X J hside;generalize wr.drewN nd=w5 at*;by_cases ae:l1.length<=64
    ·rw[if_pos ae]at hres
     simp only[Option.some.injEq,Prod.mk.injEq]at hres;obtain⟨rfl,rfl,hr3e,rfl⟩:=hres;have a8:=aK hr3e;clear hr3e HRES;have bb:decide ((l1.length:Int)<=64)=true:=decide_eq_true za;have d64':decide (l1.length<=64)=true:=by simpa using ae
     have x1:w5.cell? ⟨w.heap.size,1,none⟩=some (.int .i64 cols):=(blk_cell ao 1).trans rfl;obtain⟨a1,a2⟩:=hrw;have hcr:l1.length*cols<=4096:=Nat.mul_le_mul ae a2;have HBL:=aK (blank_some (a:=l1.length) (b:=cols) za)
     go_wp2_with fail
     refine(matrix_blank.calls l1.length cols _ _ _ _ HBL.out).mono ?_;rintro e w6 ⟨vt,rfl,ho,al⟩;obtain⟨At,ct,ev⟩:=R_slice ho;rw[List.length_replicate]at ev
     subst ev;have a0:=(al.block _ (lt_of_get ao)).trans ao;have ap:=(al.block _ (lt_of_get Y)).trans Y;have a4:=aK (R_lower ho au.out.size);have a3:=aK (below_step au.out al);clear x1 ao Y ho al;generalize hn:l1.length*cols=n at*;have HN:=aK hn;clear hn
     go_upto_region 12 with(fail)
     have U:=below_alloc (Below.refl w6.heap.size w6) (.cells #[.int .i64 l1.length,.int .i64 cols,.slice At n ct] 24);have HT:Aside0 (PS w w.heap.size (w.heap.size+1) w6.heap.size rows cols I (l1.length:Int) (cols:Int) G D (.slice At n ct) (midP cols D l1 0) (w6.alloc (.cells #[.int .i64 l1.length,.int .i64 cols,.slice At n ct] 24))):=by
      rw[midP_zero,HN.out];exact⟨(U.block _ (lt_of_get a0)).trans a0,(U.block _ (lt_of_get ap)).trans ap,blk_new _ _,R_below a4.out U,below_step a3.out U,Nat.le_refl _,by omega,a3.out.size⟩
     have hrb:=lt_of_get ap;clear U a0 ap a4;generalize w6.alloc (.cells #[.int .i64 l1.length,.int .i64 cols,.slice At n ct] 24)=w7 at*;generalize w6.heap.size=bt at*
     go_wp2_with fail
     go_loopg [43] l1.length (fun kq bg wr=> ∃(k:Nat),bg= .int .i64 k/\k<=l1.length/\Aside0 (kq+k=l1.length)/\Aside0 (PS w w.heap.size (w.heap.size+1) bt rows cols I (l1.length:Int) (cols:Int) G D (.slice At n ct) (midP cols D l1 k) wr))
     case atStart=>exact⟨0,rfl,Nat.zero_le _,⟨by omega⟩,HT⟩
     case round=>
      obtain⟨k,rfl,hk,a7,HO⟩:=hrel;clear HT;by_cases hkl:k<l1.length
      ·have tst:decide ((k:Int)<(l1.length:Int))=true:=decide_eq_true za;obtain⟨ay,eA,ai⟩:=Kd.at_int aw.out (k:Int) za za;subst eA;have hx:wr.cell? (ay.add k)=some (.int .i64 (l1.getD k 0)):=by
        rw[show l1.getD k 0=rd l1 (k:Int)from by simp[rd]];have:=pw_cell_below HO.out.below ai;simpa using this
       have hxr:=HMEM.out (l1.getD k 0) (by rw[List.getD_eq_getElem?_getD,List.getElem?_eq_getElem hkl];exact List.getElem_mem hkl);have HST:=aK (midP_step HL.out HMEM.out hkl);have hsl:=segP_length HL.out hxr;have HSG:=aK (show segP cols D (l1.getD k 0)=(D.drop ((l1.getD k 0).toNat*cols)).take cols from rfl);have hml:=midP_length HL.out HMEM.out (k:=k) za;generalize l1.getD k 0=x at*;obtain⟨i,rfl⟩:=Int.eq_ofNat_of_zero_le hxr.1;rw[Int.toNat_natCast]at HSG
       have hi:i<rows:=by omega
       have bc:(0:Int)<=(k:Int):=by omega
       have bd:(k:Int)<(l1.length:Int):=by omega
       go_wp2_with fail
       obtain⟨f,hf⟩: ∃f:Nat,f=i*cols:=⟨_,rfl⟩
       obtain⟨f2,an⟩: ∃f2:Nat,f2=(i+1)*cols:=⟨_,rfl⟩
       obtain⟨e,he⟩: ∃e:Nat,e=k*cols:=⟨_,rfl⟩
       obtain⟨e2,am⟩: ∃e2:Nat,e2=(k+1)*cols:=⟨_,rfl⟩
       have a6:f2=f+cols:=by rw[an,hf,Nat.add_mul,Nat.one_mul]
       have a5:e2=e+cols:=by rw[am,he,Nat.add_mul,Nat.one_mul]
       have hfl:f2<=D.length:=by rw[an,HL.out];exact Nat.mul_le_mul_right _ hi
       have hen:e2<=n:=by rw[am,<-HN.out];exact Nat.mul_le_mul_right _ hkl
       have hec:e2<=ct:=Nat.le_trans hen (R_reads' HO.out.data).2.1;have aq:=aK (fun W=>matrix_row.calls (l1.length:Int) cols k n ct e e2 At W he am hec za a2);have ar:=aK (fun W=>matrix_row.calls (rows:Int) cols i D.length I f f2 G W hf an (Nat.le_trans hfl HC.out) za a2);generalize hdp:(if e2=e then At else At.map (·.add e))=dp at aq;generalize hsp:(if f2=f then G else G.map (·.add f))=sp at ar;have HDP:=aK hdp;have HSP:=aK hsp;rw[<-he]at HST
       rw[<-hf]at HSG
       rw[HN.out]at hml
       have av:=aK a6;have aj:=aK a5;have HML:=aK hml;have HSL:=aK hsl;clear hf an he am a6 a5 hec hdp hsp ai hx hml hsl;have s0:wr.cell? ⟨bt,0,none⟩=some (.int .i64 l1.length):=(blk_cell HO.out.ht 0).trans rfl;have s1:wr.cell? ⟨bt,1,none⟩=some (.int .i64 cols):=(blk_cell HO.out.ht 1).trans rfl;have s2:wr.cell? ⟨bt,2,none⟩=some (.slice At n ct):=(blk_cell HO.out.ht 2).trans rfl;have s3:wr.cell? ⟨w.heap.size,0,none⟩=some (.int .i64 rows):=(blk_cell HO.out.hm 0).trans rfl;have s4:wr.cell? ⟨w.heap.size,1,none⟩=some (.int .i64 cols):=(blk_cell HO.out.hm 1).trans rfl;have s5:wr.cell? ⟨w.heap.size,2,none⟩=some (.slice G D.length I):=(blk_cell HO.out.hm 2).trans rfl;refine start_ (n:=7) (S:=fun w'=>w'.cell? ⟨bt,0,none⟩=some (.int .i64 l1.length)/\w'.cell? ⟨bt,1,none⟩=some (.int .i64 cols)/\w'.cell? ⟨bt,2,none⟩=some (.slice At n ct)/\w'.cell? ⟨w.heap.size,0,none⟩=some (.int .i64 rows)/\w'.cell? ⟨w.heap.size,1,none⟩=some (.int .i64 cols)/\w'.cell? ⟨w.heap.size,2,none⟩=some (.slice G D.length I)) (ds:= [6]) (mB 7 0) zc rfl rfl ⟨s0,s1,s2,s3,s4,s5⟩ (fun hHeld=>?_);have a9:=aK (HO.out.next (below_drew (Below.refl _ _)));clear HO s0 s1 s2 s3 s4 s5;generalize wr.drew=w6 at*;refine zpu 1 (some 49) (mB 7 2) ?_;refine zpu 4 (some 52) (mB 7 18) ?_;refine ztk6 0 (some 48) (mB 7 19) hHeld ?_;refine ztk6 3 (some 51) (mB 7 27) hHeld ?_;refine zon 2 (some 50) (mB 7 31) fun K hK=>?_;refine goes_ Tryd.func66 zc rfl #[.agg #[.int .i64 l1.length,.int .i64 cols,.slice At n ct],.int .i64 k] ze rfl rfl zn ?_;refine(aq.out _).mono ?_;rintro e' w7 ⟨rfl,U⟩;refine⟨_,rfl,?_⟩;refine hK.out _ _ ⟨pw_cell_below U hHeld.1,pw_cell_below U hHeld.2.1,pw_cell_below U hHeld.2.2.1,pw_cell_below U hHeld.2.2.2.1,pw_cell_below U hHeld.2.2.2.2.1,pw_cell_below U hHeld.2.2.2.2.2⟩ (fun hHeld=>?_);clear hK K;refine znm (some 50) ?_;refine zon 5 (some 53) (mB 7 63) fun K hK=>?_;refine goes_ Tryd.func66 zc rfl #[.agg #[.int .i64 rows,.int .i64 cols,.slice G D.length I],.int .i64 i] ze rfl rfl zn ?_;refine(ar.out _).mono ?_;rintro e' w8 ⟨rfl,aa⟩;refine⟨_,rfl,?_⟩;have ax:=aK (a9.out.next (below_step U aa));refine hK.out _ _ ⟨pw_cell_below aa hHeld.1,pw_cell_below aa hHeld.2.1,pw_cell_below aa hHeld.2.2.1,pw_cell_below aa hHeld.2.2.2.1,pw_cell_below aa hHeld.2.2.2.2.1,pw_cell_below aa hHeld.2.2.2.2.2⟩ (fun hHeld=>?_);clear hK K;refine znm (some 53) ?_;refine zln 6 (some 54) (mB 7 127) fun K hK=>?_;refine copy_step rfl (.tmp 50) (.tmp 53) 22 22 rfl 5 Tryd.underlying22 zc dp sp cols cols cols cols rfl rfl cols zd (fun w'=>PS w w.heap.size (w.heap.size+1) bt rows cols I (l1.length:Int) (cols:Int) G D (.slice At n ct) (midP cols D l1 (k+1)) w') (fun h0=>?_) (fun h0=>?_) ?_
       ·have h8:=ax.out;have be:segP cols D (i:Int)= []:=List.length_eq_zero_iff.1 (by rw[HSL.out,h0]);have hst:=HST.out;rw[be]at hst
        have:splice (midP cols D l1 k) e [] =midP cols D l1 k:=by simp[splice]
        rw[this]at hst
        rw[<-hst];exact h8
       ·have h8:=ax.out;obtain⟨xb,hxb⟩:=R_head h8.data (by rw[HML.out];have:=aj.out;omega);subst hxb;obtain⟨cur,az,bk,bl,bm,bn,bo,bp⟩:=R_cur h8.data;have hrd:=Kd.reads_of_C (enc:=Value.int .u8) (d:=(0:Int)) (h1:=fun _=>rfl) (C_below HR.out h8.below);obtain⟨ad,ha,hcell⟩:=hrd.2.2 (by have:=av.out;omega);subst ha;refine⟨xb,e,cur,5,nums .u8 (segP cols D (i:Int)),ad.add f,az,by simp[nums,HSL.out],?_,?_,fun j v hv=>?_,by simp[nums,HSL.out];have:=aj.out;omega,fun v hv=>?_,fun w' h1 h2=>?_⟩
        ·rw[<-HDP.out,if_neg (by have:=aj.out;omega)];show some ((⟨xb,0,none⟩:Addr).add e)=_;unfold Addr.add;by_cases a:e=0<;>simp[a]
        ·rw[<-HSP.out,if_neg (by have:=av.out;omega)];rfl
        ·unfold nums at hv;rw[List.getElem?_map]at hv
         obtain⟨y,hy,rfl⟩:=Option.map_eq_some_iff.1 hv;have hj:=(List.getElem?_eq_some_iff.1 hy).1;rw[HSL.out]at hj
         rw[show(ad.add f).add j=ad.add (f+j)from by unfold Addr.add;by_cases a:f=0<;>by_cases b:j=0<;>simp[a,b];all_goals omega];rw[hcell (f+j) (by have:=av.out;omega)];rw[HSG.out,List.getElem?_take_of_lt hj,List.getElem?_drop]at hy
         rw[List.getD_eq_getElem?_getD,hy];rfl
        ·unfold nums at hv;obtain⟨y,_,rfl⟩:=List.mem_map.1 hv;rfl
        ·have:=h8.splice az (off:=e) (seg:=segP cols D (i:Int)) (by rw[HSL.out,HML.out];have:=aj.out;omega) h1 h2;rw[HST.out]at this
         exact this
       intro w9 h9;have ba:=aK h9;clear h9;clear ax;refine hK.out _ _ ?_;clear hK K;refine znm (some 54) ?_;refine done_ zc ?_;clear hHeld
       go_wp2_with fail
       go_roundg (l1.length-(k+1))
       case measure=>have:=a7.out;omega
       case rel=>exact⟨k+1,by go_num,by omega,⟨by omega⟩,ba⟩
      ·obtain rfl:k=l1.length:=by omega
       have s0:wr.cell? ⟨bt,0,none⟩=some (.int .i64 l1.length):=(blk_cell HO.out.ht 0).trans rfl;have s1:wr.cell? ⟨bt,1,none⟩=some (.int .i64 cols):=(blk_cell HO.out.ht 1).trans rfl;have s2:wr.cell? ⟨bt,2,none⟩=some (.slice At n ct):=(blk_cell HO.out.ht 2).trans rfl;have y0:wr.cell? ⟨w.heap.size+1,0,none⟩=some (.int .i64 0):=(blk_cell HO.out.hr 0).trans rfl;have y1:wr.cell? ⟨w.heap.size+1,1,none⟩=some (.int .i64 0):=(blk_cell HO.out.hr 1).trans rfl;have y2:wr.cell? ⟨w.heap.size+1,2,none⟩=some (.slice none 0 0):=(blk_cell HO.out.hr 2).trans rfl;have f0:=blk_frozen HO.out.hr 0;have f1:=blk_frozen HO.out.hr 1;have f2:=blk_frozen HO.out.hr 2
       go_wp2_with fail
       refine bodyPost_ret (results_ct rfl _ _ (w.heap.size+1) 24 #[.int .i64 l1.length,.int .i64 cols,.slice At n ct] (0,0) _ rfl (blk_put (cs:= #[.int .i64 l1.length,.int .i64 cols,.slice none 0 0]) (blk_put (cs:= #[.int .i64 l1.length,.int .i64 0,.slice none 0 0]) (blk_put (cs:= #[.int .i64 0,.int .i64 0,.slice none 0 0]) HO.out.hr 0 _ rfl) 1 _ rfl) 2 _ rfl) Tryd.underlying24 rfl zc) rfl ?_;refine⟨_,rfl,?_,?_⟩
       ·rw[<-a8.out,<-midP_all];have h1:=R_types HO.out.data HO.out.hr (fun q hq=>by obtain rfl:q=5:=(List.mem_cons.1 hq).elim id (fun hx=>by cases hx);decide);exact R_mono (R_far (R_far (R_far h1 (p:=⟨w.heap.size+1,0,none⟩) (fun k hk=>hk.2) _) (p:=⟨w.heap.size+1,1,none⟩) (fun k hk=>hk.2) _) (p:=⟨w.heap.size+1,2,none⟩) (fun k hk=>hk.2) _) (fun _ _=>trivial)
       ·exact((HO.out.below.setCell zg _).setCell zg _).setCell zg _
    ·rw[if_neg ae]at hres
     simp only[Option.some.injEq,Prod.mk.injEq]at hres;obtain⟨rfl,rfl,rfl,rfl⟩:=hres;have bb:decide ((l1.length:Int)<=64)=false:=decide_eq_false za;have d64':decide (l1.length<=64)=false:=by simpa using ae
     have y0:w5.cell? ⟨w.heap.size+1,0,none⟩=some (.int .i64 0):=(blk_cell Y 0).trans rfl;have y1:w5.cell? ⟨w.heap.size+1,1,none⟩=some (.int .i64 0):=(blk_cell Y 1).trans rfl;have y2:w5.cell? ⟨w.heap.size+1,2,none⟩=some (.slice none 0 0):=(blk_cell Y 2).trans rfl;have f0:=blk_frozen Y 0;have f1:=blk_frozen Y 1;have f2:=blk_frozen Y 2
     go_wp2_with fail
     refine bodyPost_ret (results_ct rfl _ _ (w.heap.size+1) 24 #[.int .i64 0,.int .i64 0,.slice none 0 0] (0,0) _ rfl (blk_put (cs:= #[.int .i64 0,.int .i64 0,.slice none 0 0]) (blk_put (cs:= #[.int .i64 0,.int .i64 0,.slice none 0 0]) (blk_put (cs:= #[.int .i64 0,.int .i64 0,.slice none 0 0]) Y 0 _ rfl) 1 _ rfl) 2 _ rfl) Tryd.underlying24 rfl zc) rfl ?_;exact⟨_,rfl,R_nil _ _ _ _ _,((au.out.setCell zg _).setCell zg _).setCell zg _⟩
def gauss_First.f(I:Int)(J:Int)(L:List Int):Option (List Int×Int):=(matrix_Transpose.f I J L).bind fun D=>(if D.2.2.2=0 then((gauss_Reduce.f D.1 D.2.1 D.2.2.1).bind fun G=>(some (G.2.2.2.1,G.2.2.2.2)))else(some (([]:List Int),D.2.2.2)))
theorem gauss_First.calls(U:Int)(X:Int)(ab:Option Addr)(ac:Nat)(L:List Int)(r1:List Int)(r2:Int)(w:World)(az:Kd.C (Kd.int .u8) w ab L.length L)(ay:L.length<=ac)(h:gauss_First.f U X L=some (r1,r2)):
 Calls Tryd.prog 68 #[.agg #[.int .i64 U,.int .i64 X,.slice ab L.length ac]] w fun e w'=> ∃v0_:Value,e= .returned (.tuple #[v0_,.int .i64 r2])/\Kd.R (Kd.int .i64) 3 w' w.heap.size (fun _=>True) v0_ r1/\Below w.heap.size w w':=by
 have cp:=Tryd.underlying24;have aw:=aK az;have av:=aK ay;clear az ay;have HB:=aK (Below.refl w.heap.size w);have H:((matrix_Transpose.f U X L).bind fun ag=>(if ag.2.2.2=0 then((gauss_Reduce.f ag.1 ag.2.1 ag.2.2.1).bind fun ax=>(some (ax.2.2.2.1,ax.2.2.2.2)))else(some (([]:List Int),ag.2.2.2))))=some (r1,r2):=h;clear h;obtain⟨⟨O,Y,Z,ah⟩,A2,H⟩:=bindO H
 (try dsimp only at H)
 by_cases c3:ah=0
 ·rw[if_pos c3]at H
  have c3b0:(ah==0)=true:=beq_iff_eq.mpr c3;have c3b1:(ah !=0)=false:=bne_eq_false_iff_eq.mpr c3;clear c3;obtain⟨⟨a0,a1,a2,b2,b3⟩,A4,H⟩:=bindO H
  (try dsimp only at H)
  obtain⟨rfl,rfl⟩:=zP2 H
  go_enter Tryd.func68,Tryd.ntmps68
  go_wp2_with (first|((with_reducible refine gD 1 rfl ?_);refine bE 1 #[.int .i64 U,.int .i64 X,.slice ab L.length ac] 24 ?_;intro ai hg w5 hbox hb;have D:=aK (hbox);have a5:=hbS HB hg;have a3:=hbS HB hg;replace HB:=hbB HB hb;clear hb hbox hg;obtain⟨b6,b7,b8,b9,ca,cb⟩:=cell3 D)|((with_reducible refine gC 69 rfl ?_);refine cG (some 10) Tryd.func69 #[.agg #[.int .i64 U,.int .i64 X,.slice ab L.length ac]] ?_;(with_reducible refine(matrix_Transpose.calls U X _ _ L O Y Z ah _ ?side1 ?side2 A2.out).mono ?_);(case side1=>exact kcB aw HB);(case side2=>exact av.out);rintro e w7 ⟨b4,rfl,al,hb⟩;refine⟨_,rfl,?_⟩;have I:=aK (R_lower al (below_size (hbA HB.out)));replace D:=bkB D hb;replace HB:=hbB HB hb;(try clear hb);(try clear al))|((with_reducible refine gD 4 rfl ?_);refine bE 4 #[.int .i64 0,.int .i64 0,.slice none 0 0] 24 ?_;intro aj hg w8 hbox hb;replace I:=kdB I hb;have J:=aK (hbox);have a6:=hbS HB hg;have a4:=hbS HB hg;replace HB:=hbB HB hb;have G:=neL D hg;have aa:=neG D hg;replace D:=bkB D hb;clear hb hbox hg;have cn:=aa.out;have co:=G.out;obtain⟨bc,bd,be,bo,bp,bq⟩:=cell3 J;obtain⟨af,ae,a9⟩:=R_slice I.out;subst a9)|((with_reducible refine gC 90 rfl ?_);refine cG (some 18) Tryd.func90 #[.agg #[.int .i64 O,.int .i64 Y,.slice af Z.length ae]] ?_;(with_reducible refine(gauss_Reduce.calls O Y _ _ Z a0 a1 a2 b2 b3 _ ?side1 ?side2 A4.out).mono ?_);(case side1=>refine(R_reads' (e:=5) (base:=w.heap.size) (ok:=fun k_=>True) (n:=Z.length) (c:=ae) ?_).2.2;exact(by(with_reducible repeat(first|apply R_alloc|apply R_drewN|apply R_drew));exact(zF I.out J.out  (.int .i64 O)  (.int .i64 Y)  (.slice af Z.length ae))));(case side2=>exact(R_reads' I.out).2.1);rintro e cr ⟨cq,b5,rfl,al,b1,hb⟩;refine⟨_,rfl,?_⟩;have am:=aK (Kd.V_lower (V_mono (ok':=fun k_=>some k_≠(b5:Value).ownBlock/\some k_≠(.slice af Z.length ae:Value).ownBlock/\k_≠ai/\k_≠aj) al (fun k_ hk_=>⟨hk_.2,(Kd.fresh' (R_lt (by(with_reducible repeat(first|apply R_alloc|apply R_drewN|apply R_drew));exact(zF I.out J.out  (.int .i64 O)  (.int .i64 Y)  (.slice af Z.length ae)))) k_ hk_.1),(Kd.freshB (g:=ai) (o:= .cells #[.int .i64 U,.int .i64 X,.slice ab L.length ac] 24 (0,0)) zz k_ hk_.1),(Kd.freshB (g:=aj) (o:= .cells #[.int .i64 O,.int .i64 Y,.slice af Z.length ae] 24 (0,0)) zas k_ hk_.1)⟩)) (below_size (hbA HB.out)));replace I:=aK (R_below (by(with_reducible repeat(first|apply R_alloc|apply R_drewN|apply R_drew));exact(zF I.out J.out  (.int .i64 O)  (.int .i64 Y)  (.slice af Z.length ae))) hb);have an:=aK (R_lower (R_mono (ok':=fun k_=>True) b1 (fun _ hk_=>trivial)) (below_size (hbA HB.out)));replace D:=aK (blk_below (g:=ai) (o:= .cells #[.int .i64 U,.int .i64 X,.slice ab L.length ac] 24 (0,0)) zz hb);replace J:=aK (blk_below (g:=aj) (o:= .cells #[.int .i64 O,.int .i64 Y,.slice af Z.length ae] 24 (0,0)) zas hb);replace HB:=hbB HB hb;(try clear hb);(try clear al);(try clear b1))|((with_reducible refine gD 6 rfl ?_);refine bE 6 #[.int .i64 0,.int .i64 0,.slice none 0 0] 24 ?_;intro ak hg ct hbox hb;replace I:=kdB I hb;replace am:=aK (Kd.V_below (Kd.V_elderB (by(with_reducible repeat(first|apply Kd.V_alloc|apply Kd.V_drewN|apply Kd.V_drew));exact am.out) ak (Nat.le_of_eq hg.symm)) hb);replace an:=kdB an hb;have au:=aK (hbox);have ce:=hbS HB hg;have cd:=hbS HB hg;replace HB:=hbB HB hb;have ao:=neL D hg;have aq:=neG D hg;replace D:=bkB D hb;have ap:=neL J hg;have ar:=neG J hg;replace J:=bkB J hb;clear hb hbox hg;have cf:=aq.out;have ci:=ao.out;have cg:=ar.out;have cj:=ap.out;obtain⟨bf,bg,bh,br,bs,bt⟩:=cell3 au;obtain⟨a7,a8,ba⟩:=V_slice am.out;subst ba))
  go_ret2
  exact⟨_,rfE,by(with_reducible repeat(first|apply R_alloc|apply R_drewN|apply R_drew));exact R_mono (R_far (p:=⟨ak,2,none⟩) (R_far (p:=⟨ak,1,none⟩) (R_far (p:=⟨ak,0,none⟩) (R_types an.out au.out zb) (fun _ hk=>hk.2) (.int .i64 a0)) (fun _ hk=>hk.2) (.int .i64 a1)) (fun _ hk=>hk.2) (.slice a7 a2.length a8)) (fun _ hk=>trivial),hbA HB.out⟩
 ·rw[if_neg c3]at H
  have c3b0:(ah==0)=false:=beq_eq_false_iff_ne.mpr c3;have c3b1:(ah !=0)=true:=bne_iff_ne.mpr c3;obtain⟨rfl,rfl⟩:=zP2 H
  go_enter Tryd.func68,Tryd.ntmps68
  go_wp2_with (first|((with_reducible refine gD 1 rfl ?_);refine bE 1 #[.int .i64 U,.int .i64 X,.slice ab L.length ac] 24 ?_;intro ai hg cu hbox hb;have D:=aK (hbox);have a5:=hbS HB hg;have a3:=hbS HB hg;replace HB:=hbB HB hb;clear hb hbox hg;obtain⟨bi,bj,bk,bu,bv,bw⟩:=cell3 D)|((with_reducible refine gC 69 rfl ?_);refine cG (some 10) Tryd.func69 #[.agg #[.int .i64 U,.int .i64 X,.slice ab L.length ac]] ?_;(with_reducible refine(matrix_Transpose.calls U X _ _ L O Y Z ah _ ?side1 ?side2 A2.out).mono ?_);(case side1=>exact kcB aw HB);(case side2=>exact av.out);rintro e cv ⟨b4,rfl,al,hb⟩;refine⟨_,rfl,?_⟩;have I:=aK (R_lower al (below_size (hbA HB.out)));replace D:=bkB D hb;replace HB:=hbB HB hb;(try clear hb);(try clear al))|((with_reducible refine gD 4 rfl ?_);refine bE 4 #[.int .i64 0,.int .i64 0,.slice none 0 0] 24 ?_;intro aj hg cw hbox hb;replace I:=kdB I hb;have J:=aK (hbox);have a6:=hbS HB hg;have a4:=hbS HB hg;replace HB:=hbB HB hb;have G:=neL D hg;have aa:=neG D hg;replace D:=bkB D hb;clear hb hbox hg;have ch:=aa.out;have ck:=G.out;obtain⟨bl,bm,bn,bx,bz,b0⟩:=cell3 J;obtain⟨cl,cm,bb⟩:=R_slice I.out;subst bb))
  go_ret2
  exact⟨_,rfE,nilE,hbA HB.out⟩
theorem RowV.lit1(w:World)(x:Int):RowV (w.alloc (.cells #[.int .u8 x] 5)) (.slice (some ⟨w.heap.size,0,none⟩) 1 1) [x]:=by
 have hb:=blk_new w (.cells #[.int .u8 x] 5);refine⟨_,1,rfl,Nat.le_refl _,C_of_reads (d:=(0:Int)) ⟨rfl,by simp,fun hn=>⟨⟨w.heap.size,0,none⟩,rfl,fun j hj=>?_⟩⟩,fun ad ha=>?_⟩
 ·obtain rfl:j=0:=by simpa using hj
  exact(blk_cell hb 0).trans rfl
 ·cases ha
  exact⟨_,hb⟩
theorem Hold.newRow{w w1:World}{R g d cl cd:Nat}{Al Ad:Option Addr}{M D:List (List Int)}{cols i:Nat}{v:Value}{l:List Int}(h:Hold w R g d cl cd Al Ad M D cols)(hi:i<D.length)(hb:Below w.heap.size w w1)
 (hv:RowV w1 v l):Hold (w1.setCell ⟨d,i,none⟩ v) R g d cl cd Al Ad M (D.set i l) cols:=by
 obtain⟨cells,hc⟩:=h.LD.typ za;have hd:=(hb.block d (lt_of_get hc)).trans hc;refine h.putD (v:=v) hi (grown_trans (grown_below hb) (grown_set w1 d i v)) ?_ (hv.keep (KeepB.grown (grown_set w1 d i v) hd zb));rw[blk_put hd i v rfl,blk_put hc i v rfl]
def fillTo(f:Nat->List Int)(n i:Nat):List (List Int):=(List.range n).map fun k=>if k<i then f k else []
theorem fillTo_length(f:Nat->List Int)(n i:Nat):(fillTo f n i).length=n:=by simp[fillTo]
theorem fillTo_get{f:Nat->List Int}{n i k:Nat}(hk:k<n):(fillTo f n i).getD k [] =if k<i then f k else []:=by
 unfold fillTo;rw[List.getD_eq_getElem?_getD,List.getElem?_map,List.getElem?_range hk];rfl
theorem fillTo_zero(f:Nat->List Int)(n:Nat):fillTo f n 0=List.replicate n []:=by
 apply List.ext_getElem (by simp[fillTo]);intro k h1 h2;simp[fillTo]
theorem fillTo_succ{f:Nat->List Int}{n i:Nat}(hi:i<n):(fillTo f n i).set i (f i)=fillTo f n (i+1):=by
 apply List.ext_getElem (by simp[fillTo]);intro k h1 h2;have hk:k<n:=by rw[fillTo_length]at h2;exact h2
 simp only[fillTo,List.getElem_set,List.getElem_map,List.getElem_range];by_cases e:i=k
 ·subst e;rw[if_pos rfl,if_pos za]
 rw[if_neg e];by_cases h:k<i
 case neg=>rw[if_neg h,if_neg za]
 rw[if_pos h,if_pos za]
def colRow(y:List Int)(k:Nat):List Int:= [y.getD k 0]
theorem shp_col{rows cols:Nat}{l y:List Int}(hb:bytesB l=true)(hl:l.length=rows*cols)(h:rows<=64/\cols<=64)(hy:bytesB y=true)(hyl:y.length=rows):Shp (rowsOf cols rows l) (fillTo (colRow y) rows rows) cols 1:=
 shp_of hb hl h (fillTo_length _ _ _) (by
  rw[rowsB,List.all_eq_true];intro x hx;obtain⟨k,hk,rfl⟩:=List.mem_map.1 hx;rw[if_pos (List.mem_range.1 hk)];refine bytesB_mk fun z hz=>?_;obtain rfl:z=y.getD k 0:=by simpa[colRow]using hz
  exact bytesB_at hy (by have:=List.mem_range.1 hk;omega)) (fun i hi=>by rw[fillTo_get hi,if_pos hi];rfl) zb
theorem red_piv{M D:List (List Int)} : ∀j i,i<(redTo M D j).2.length->0<=(redTo M D j).2.getD i 0/\(redTo M D j).2.getD i 0<(j:Int)
 |0,i,h=>by simp[redTo]at h
 |j+1,i,h=>by
  have ih:=red_piv (M:=M) (D:=D) j;have e:redTo M D (j+1)=redStep j (redTo M D j):=rfl;rw[e]at h⊢
  cases hf:firstIn (redTo M D j).1.1 (redTo M D j).2.length j with
  |none=>
   rw[redStep_none hf]at h⊢
   have:=ih i h;omega
  |some k=>
   rw[redStep_some hf]at h⊢
   simp only[]at h⊢;rw[List.length_append,List.length_singleton]at h
   rcases Nat.lt_or_ge i (redTo M D j).2.length with hi|hi
   ·have:=ih i hi;rw[List.getD_eq_getElem?_getD,List.getElem?_append_left hi,<-List.getD_eq_getElem?_getD];omega
   ·obtain rfl:i=(redTo M D j).2.length:=by omega
    rw[List.getD_eq_getElem?_getD,List.getElem?_append_right (Nat.le_refl _),Nat.sub_self];simp;omega
def solveTo(P:List Int)(D:List (List Int))(cols:Nat):Nat->List Int
 |0=>List.replicate cols 0
 |i+1=>if i<P.length then(solveTo P D cols i).set (P.getD i 0).toNat (entry D i 0)else solveTo P D cols i
theorem solveTo_length(P:List Int)(D:List (List Int))(cols:Nat): ∀i,(solveTo P D cols i).length=cols
 |0=>by simp[solveTo]
 |i+1=>by
  unfold solveTo
  split
  ·rw[List.length_set,solveTo_length]
  ·exact solveTo_length P D cols i
def badFrom(P:List Int)(D:List (List Int)):Nat->Nat->Bool
 |0,_=>false
 |f+1,i=>if P.length<=i/\entry D i 0≠0 then true else badFrom P D f (i+1)
def gauss_Solve.st(a b:Int)(l y:List Int):(List (List Int)×List (List Int))×List Int:=redTo (rowsOf b.toNat a.toNat l) (fillTo (colRow y) a.toNat a.toNat) b.toNat
def gauss_Solve.f(a b:Int)(l y:List Int):Option (List Int×Bool×Int):=
 (matrix_Right.f a b l).bind fun t=>if t=true then(if(y.length:Int)=a then(if bytesB l=true/\bytesB y=true then(if badFrom (gauss_Solve.st a b l y).2 (gauss_Solve.st a b l y).1.2 a.toNat 0=true then some ([],false,0)else some (solveTo (gauss_Solve.st a b l y).2 (gauss_Solve.st a b l y).1.2 b.toNat a.toNat,true,0))else none)else some ([],false,3))else some ([],false,3)
theorem badFrom_yes{P:List Int}{D:List (List Int)} : ∀f i k,i<=k->k<i+f->P.length<=k->entry D k 0≠0->badFrom P D f i=true
 |0,i,k,h1,h2,_,_=>by omega
 |f+1,i,k,h1,h2,h3,h4=>by
  unfold badFrom;by_cases e:P.length<=i/\entry D i 0≠0
  ·rw[if_pos e]
  rw[if_neg e];refine badFrom_yes f (i+1) k ?_ za h3 h4;rcases Nat.lt_or_eq_of_le h1 with h|h
  ·exact h
  ·subst h;exact absurd ⟨h3,h4⟩ e
theorem badFrom_no{P:List Int}{D:List (List Int)} : ∀f i,(∀k,i<=k->k<i+f->P.length<=k->entry D k 0=0)->badFrom P D f i=false
 |0,i,_=>rfl
 |f+1,i,h=>by
  unfold badFrom;rw[if_neg (fun e=>e.2 (h i (Nat.le_refl _) za e.1))];exact badFrom_no f (i+1) fun k h1 h2=>h k za za
theorem gauss_Solve.calls(L:Int)(O:Int)(I:Option Addr)(J:Nat)(G:List Int)(A1:Option Addr)(c1:Nat)(l1:List Int)(r1:List Int)(r2:Bool)(r3:Int)(w:World)(ag:Kd.C (Kd.int .u8) w I G.length G)(af:G.length<=J)(a4:Kd.C (Kd.int .u8) w A1 l1.length l1)(an:l1.length<=c1)(h:gauss_Solve.f L O G l1=some (r1,r2,r3)):
 Calls Tryd.prog 70 #[.agg #[.int .i64 L,.int .i64 O,.slice I G.length J],.slice A1 l1.length c1] w fun e w'=> ∃v0_:Value,e= .returned (.tuple #[v0_,.bool r2,.int .i64 r3])/\Kd.R (Kd.int .u8) 5 w' w.heap.size (fun _=>True) v0_ r1/\Below w.heap.size w w':=by
 have bl:=Tryd.underlying24;have HR:=aK ag;have HC:=aK af;have HY:=aK a4;clear ag af a4;unfold gauss_Solve.f at h;obtain⟨t,hm,h⟩:=Option.bind_eq_some_iff.mp h;have HM:=aK hm
 cases t with
 |false=>
  simp only[Bool.false_eq_true,if_false,Option.some.injEq,Prod.mk.injEq]at h;obtain⟨rfl,rfl,rfl⟩:=h;clear hm
  go_enter Tryd.func70,Tryd.ntmps70
  go_upto_region 1 with(fail)
  have ac:=below_alloc (Below.refl w.heap.size w) (.cells #[.int .i64 L,.int .i64 O,.slice I G.length J] 24);have hbm:=blk_new w (.cells #[.int .i64 L,.int .i64 O,.slice I G.length J] 24);have aa:=aK ac;clear ac;generalize w.alloc (.cells #[.int .i64 L,.int .i64 O,.slice I G.length J] 24)=w2 at*;have x0:w2.cell? ⟨w.heap.size,0,none⟩=some (.int .i64 L):=(blk_cell hbm 0).trans rfl;have x1:w2.cell? ⟨w.heap.size,1,none⟩=some (.int .i64 O):=(blk_cell hbm 1).trans rfl;have x2:w2.cell? ⟨w.heap.size,2,none⟩=some (.slice I G.length J):=(blk_cell hbm 2).trans rfl
  go_wp2_with fail
  refine(matrix_Right.calls L O I J G false _ (C_below HR.out aa.out) HC.out HM.out).mono ?_;rintro e w3 ⟨rfl,Y⟩;have U:=(Y.block _ (lt_of_get hbm)).trans hbm;have ae:=aK (below_step aa.out Y);clear x0 x1 x2 hbm Y;have x0:w3.cell? ⟨w.heap.size,0,none⟩=some (.int .i64 L):=(blk_cell U 0).trans rfl;have x1:w3.cell? ⟨w.heap.size,1,none⟩=some (.int .i64 O):=(blk_cell U 1).trans rfl;have x2:w3.cell? ⟨w.heap.size,2,none⟩=some (.slice I G.length J):=(blk_cell U 2).trans rfl;clear x0 x1 x2 U
  go_wp2_with fail
  go_ret3
  exact⟨_,rfl,R_nil _ _ _ _ _,ae.out⟩
 |true=>
  have hrt:=right_true hm;rw[if_pos rfl]at h
  by_cases hab:(l1.length:Int)=L
  case neg=>
   rw[if_neg hab]at h
   simp only[Option.some.injEq,Prod.mk.injEq]at h;obtain⟨rfl,rfl,rfl⟩:=h;have hne:((l1.length:Int)!=L)=true:=bne_iff_ne.mpr hab;clear hm hrt hab
   go_enter Tryd.func70,Tryd.ntmps70
   go_upto_region 1 with(fail)
   have ac:=below_alloc (Below.refl w.heap.size w) (.cells #[.int .i64 L,.int .i64 O,.slice I G.length J] 24);have hbm:=blk_new w (.cells #[.int .i64 L,.int .i64 O,.slice I G.length J] 24);have aa:=aK ac;clear ac;generalize w.alloc (.cells #[.int .i64 L,.int .i64 O,.slice I G.length J] 24)=w2 at*;have x0:w2.cell? ⟨w.heap.size,0,none⟩=some (.int .i64 L):=(blk_cell hbm 0).trans rfl;have x1:w2.cell? ⟨w.heap.size,1,none⟩=some (.int .i64 O):=(blk_cell hbm 1).trans rfl;have x2:w2.cell? ⟨w.heap.size,2,none⟩=some (.slice I G.length J):=(blk_cell hbm 2).trans rfl
   go_wp2_with fail
   refine(matrix_Right.calls L O I J G true _ (C_below HR.out aa.out) HC.out HM.out).mono ?_;rintro e w3 ⟨rfl,Y⟩;have U:=(Y.block _ (lt_of_get hbm)).trans hbm;have ae:=aK (below_step aa.out Y);clear x0 x1 x2 hbm Y;have x0:w3.cell? ⟨w.heap.size,0,none⟩=some (.int .i64 L):=(blk_cell U 0).trans rfl;have x1:w3.cell? ⟨w.heap.size,1,none⟩=some (.int .i64 O):=(blk_cell U 1).trans rfl;have x2:w3.cell? ⟨w.heap.size,2,none⟩=some (.slice I G.length J):=(blk_cell U 2).trans rfl
   go_wp2_with fail
   go_ret3
   exact⟨_,rfl,R_nil _ _ _ _ _,ae.out⟩
  rw[if_pos hab]at h
  by_cases hb:bytesB G=true/\bytesB l1=true
  case neg=>
   rw[if_neg hb]at h
   cases h
  rw[if_pos hb]at h
  obtain⟨e0,e1,e2,e3,hl⟩:=hrt;obtain⟨n,rfl⟩:=Int.eq_ofNat_of_zero_le e0;obtain⟨m,rfl⟩:=Int.eq_ofNat_of_zero_le e2;rw[Int.toNat_natCast,Int.toNat_natCast]at h
  rw[Int.toNat_natCast,Int.toNat_natCast]at hl
  have hn:n<=64:=by omega
  have hmm:m<=64:=by omega
  have hyl:l1.length=n:=by omega
  have bi:(l1.length !=n)=false:=bne_eq_false_iff_eq.mpr hyl;have HYL:=aK hyl;have HYB:=aK hb.2;have HS:=aK (shp_col hb.1 hl ⟨hn,hmm⟩ hb.2 hyl);have HST:=aK (show gauss_Solve.st (n:Int) (m:Int) G l1=redTo (rowsOf m n G) (fillTo (colRow l1) n n) m from rfl);have HL:=aK hl;generalize gauss_Solve.st (n:Int) (m:Int) G l1=st at*;have HRES:=aK h;have bs:((l1.length:Int)!=(n:Int))=false:=bne_eq_false_iff_eq.mpr hab;clear hb hm hl e0 e1 e2 e3 h hab hyl
  go_enter Tryd.func70,Tryd.ntmps70
  go_upto_region 1 with(fail)
  have ac:=below_alloc (Below.refl w.heap.size w) (.cells #[.int .i64 (n:Int),.int .i64 (m:Int),.slice I G.length J] 24);have hbm:=blk_new w (.cells #[.int .i64 (n:Int),.int .i64 (m:Int),.slice I G.length J] 24);have aa:=aK ac;clear ac;generalize w.alloc (.cells #[.int .i64 (n:Int),.int .i64 (m:Int),.slice I G.length J] 24)=w2 at*;have x0:w2.cell? ⟨w.heap.size,0,none⟩=some (.int .i64 (n:Int)):=(blk_cell hbm 0).trans rfl;have x1:w2.cell? ⟨w.heap.size,1,none⟩=some (.int .i64 (m:Int)):=(blk_cell hbm 1).trans rfl;have x2:w2.cell? ⟨w.heap.size,2,none⟩=some (.slice I G.length J):=(blk_cell hbm 2).trans rfl
  go_wp2_with fail
  refine(matrix_Right.calls (n:Int) (m:Int) I J G true _ (C_below HR.out aa.out) HC.out HM.out).mono ?_;rintro e w3 ⟨rfl,Y⟩;have U:=(Y.block _ (lt_of_get hbm)).trans hbm;have ae:=aK (below_step aa.out Y);clear x0 x1 x2 hbm Y;have x0:w3.cell? ⟨w.heap.size,0,none⟩=some (.int .i64 (n:Int)):=(blk_cell U 0).trans rfl;have x1:w3.cell? ⟨w.heap.size,1,none⟩=some (.int .i64 (m:Int)):=(blk_cell U 1).trans rfl;have x2:w3.cell? ⟨w.heap.size,2,none⟩=some (.slice I G.length J):=(blk_cell U 2).trans rfl
  go_wp2_with fail
  refine(gauss_of.calls n m I J G w3 (C_below HR.out ae.out) HC.out HL.out ⟨hn,hmm⟩).mono ?_;rintro e w4 ⟨R,rfl,hq⟩;obtain⟨g,d,cl,cd,Al,Ad,hH,al,hg,hd,hRw,br,bq,hcl,hcd,cR,hRf⟩:=hq.out;have a1:=(al.block _ (lt_of_get U)).trans U;rw[<-fillTo_zero (colRow l1)]at hH
  have HH:=aK hH;have ap:=aK (below_step ae.out al);have bk:=lt_of_get U;have y1:w4.cell? ⟨R,1,none⟩=some (.slice Ad n cd):=by have:=HH.out.also;rwa [fillTo_length]at this
  clear hq hH al U x0 x1 x2
  go_wp2_with fail
  clear y1
  go_loopg [29] n (fun kq be wr=> ∃(i:Nat),be= .int .i64 i/\i<=n/\Aside0 (kq+i=n)/\Aside0 (Hold wr R g d cl cd Al Ad (rowsOf m n G) (fillTo (colRow l1) n i) m/\Chg w4 wr (two g d)))
  case atStart=>exact⟨0,rfl,Nat.zero_le _,⟨by omega⟩,⟨HH.out,Chg.refl _ _⟩⟩
  case round=>
   obtain⟨i,rfl,hi,HK,HO⟩:=hrel;have bb:=ap.out.size;have ah:=(HO.out.2.block _ (lt_of_get a1) (fun e=>by rcases e with e|e<;>omega)).trans a1;have bm:=HO.out.2.size;have hbw:Below w.heap.size w wr:=ap.out.trans (HO.out.2.to_below (n:=w.heap.size) bb (fun k hk=>by rcases hk with e|e<;>omega));by_cases hlt:i<n
   ·have tst:decide ((i:Int)<(n:Int))=true:=by simpa using hlt
    go_wp2_with fail
    have hAd:=HO.out.1.hD (by rw[fillTo_length];omega);subst hAd;have z1:wr.cell? ⟨R,1,none⟩=some (.slice (some ⟨d,0,none⟩) n cd):=by have:=HO.out.1.also;rwa [fillTo_length]at this
    obtain⟨bg,ay,hd0r⟩:=HO.out.1.LD.row i zai;have hdf:=HO.out.1.LD.frz i zai;have hdl:=HO.out.1.LD.lt (by rw[fillTo_length];omega);obtain⟨ad,eA,Z⟩:=Kd.at_int HY.out (i:Int) za (by have:=HYL.out;omega);subst eA;have hx:wr.cell? (ad.add i)=some (.int .u8 (l1.getD i 0)):=by
     have:=pw_cell_below hbw Z;rw[show l1.getD i 0=rd l1 (i:Int)from by simp[rd]];simpa using this
    have HCR:=aK (show colRow l1 i= [l1.getD i 0]from rfl);clear hd0r Z;generalize l1.getD i 0=x at*;have hyl:=HYL.out;have hio:(0:Int)<=(i:Int):=by omega
    have hin:(i:Int)<(l1.length:Int):=by omega
    refine start_ (n:=12) (S:=fun w'=>w'.cell? ⟨R,1,none⟩=some (.slice (some ⟨d,0,none⟩) n cd)/\w'.cell? (ad.add i)=some (.int .u8 x)) (ds:= [11]) (mB 12 0) zc rfl rfl ⟨z1,hx⟩ (fun hHeld=>?_);have ab:=aK (show Hold wr.drew R g d cl cd Al (some ⟨d,0,none⟩) (rowsOf m n G) (fillTo (colRow l1) n i) m/\Chg w4 wr.drew (two g d)from⟨HO.out.1.below (below_drew (Below.refl _ _)),HO.out.2.trans (Chg.below_all (below_drew (Below.refl _ _)) _)⟩);have az:wr.drew.cell? ⟨d,i,none⟩=some bg:=ay;have ai:wr.drew.frozen? ⟨d,i,none⟩=false:=hdf;have bd:d<wr.drew.heap.size:=hdl;clear HO ah z1 ay hdf hx hbw;generalize wr.drew=w5 at*;refine zpu 0 (some 32) (mB 12 1) ?_;refine zpu 1 (some 33) (mB 12 3) ?_;refine zpu 2 (some 34) (mB 12 7) ?_;refine zpu 4 (some 36) (mB 12 23) ?_;refine zpu 5 (some 37) (mB 12 55) ?_;refine zpu 6 (some 38) (mB 12 119) ?_;refine zpu 7 (some 39) (mB 12 247) ?_;refine ztk2 3 (some 35) (mB 12 255) hHeld ?_;refine ztk2 8 (some 40) (mB 12 511) hHeld ?_;refine zon 9 (some 41) (mB 12 1023) fun K hK=>?_;refine value_ (w1:=?_) (v:=?_) ze rfl ?_ ?_;rotate_left 2
    ·go_simp;constructor
     ·rfl
     ·rfl
    have X:=aK (below_alloc (Below.refl w5.heap.size w5) (.cells #[.int .u8 x] 5));have HRV:=aK (RowV.lit1 w5 x);have a9:=pw_cell_below X.out az;have a0:=(below_frozen X.out (p:=⟨d,i,none⟩) (by show d<_;omega)).trans ai;have av:=hHeld.1;have aw:=hHeld.2;generalize w5.alloc (.cells #[.int .u8 x] 5)=w6 at*;refine hK.out _ _ ⟨pw_cell_below X.out av,pw_cell_below X.out aw⟩ (fun hHeld=>?_);clear hK K;refine znm (some 41) ?_;refine zpu 10 (some 42) (mB 12 2047) ?_;refine zln 11 (none) (mB 12 4095) fun K hK=>?_;refine zsk ?_;refine hK.out _ _ ?_;clear hK K;refine done_ zc ?_;clear hHeld;have au:=aK (ab.out.1.newRow (i:=i) zai X.out HRV.out);have a7:=aK (ab.out.2.trans ((Chg.below_all X.out (two g d)).trans ((Chg.grown (grown_set w6 d i (.slice (some ⟨w5.heap.size,0,none⟩) 1 1))).mono (t:=two g d) (fun _ _ e=> .inr e))));rw[<-HCR.out,fillTo_succ hlt]at au
    clear ab X HRV az ai a9 a0 bd av aw
    go_wp2_with fail
    go_roundg (n-(i+1))
    case measure=>have:=HK.out;omega
    case rel=>exact⟨i+1,by go_num,by omega,⟨by omega⟩,⟨au.out,a7.out⟩⟩
   obtain rfl:i=n:=by omega
   go_wp2_with fail
   refine(gauss_reduce.calls R g d cl cd Al Ad _ _ m 1 wr HO.out.1 HS.out za za).mono ?_;rintro e w6 ⟨v,rfl,hq⟩;rw[<-HST.out]at hq
   obtain⟨Av,cv,ev⟩:=R_slice hq.out.2.1;subst ev;have a2:=(hq.out.2.2.block _ (lt_of_get ah) (fun e=>by rcases e with(e|e)|e<;>omega)).trans ah;have hsh:=red_shp HS.out m;have hpv:=fun k=>red_piv (M:=rowsOf m i G) (D:=fillTo (colRow l1) i i) m k;rw[<-HST.out]at hsh hpv
   have HSH:=aK hsh;have HPV:=aK hpv;have HQ:=aK hq.out;have X:=aK (show Below w.heap.size w w6 from hbw.trans (hq.out.2.2.to_below (n:=w.heap.size) za (fun k hk=>by rcases hk with(e|e)|e<;>omega)));have ao:=X.out.size;have bn:=hq.out.2.2.size;clear hsh hpv hq ah hbw HO;have hDl:st.1.2.length=i:=by rw[HSH.out.1.len,HSH.out.2.1,rowsOf_length]
   have hMl:st.1.1.length=i:=by rw[HSH.out.2.1,rowsOf_length]
   have z0:w6.cell? ⟨w.heap.size,1,none⟩=some (.int .i64 m):=(blk_cell a2 1).trans rfl;have z1:w6.cell? ⟨R,1,none⟩=some (.slice Ad i cd):=by rw[<-hDl];exact HQ.out.1.also
   have hRl:=HQ.out.1.small
   go_wp2_with ((with_reducible refine gate_dst (N:=48) rfl ?_);refine Kd.R_make (Kd.int .u8) (w0:=w6) w6.heap.size 5 rfl (N:=48) rfl 22 _ _ rfl (m:Int) rfl rfl Tryd.underlying22 (.int .u8 0) 1 info5 rfl zb za (0:Int) (ok:=fun _=>True) (okp:=fun _=>False) rfl (fun _ h=>h.elim) trivial za za (Below.refl _ _) (Nat.le_refl _) ?_;intro vx w7 ho am ba hnew;rw[Int.toNat_natCast]at ho;obtain⟨Ax,cx,ev⟩:=R_slice ho;rw[List.length_replicate]at ev;subst ev;obtain⟨xb,hxb,bo⟩:=hnew;obtain⟨hAx,_⟩:=own_addr ho hxb;subst hAx;have HX:=aK ho;have aq:=aK am;have z2:=pw_cell_below am z1;clear ho am ba hxb)
   clear z0 z1 z2 a2
   go_loopg [4,54] i (fun kq v4 bf wr=> ∃(k:Nat),v4= .slice (some ⟨xb,0,none⟩) m cx/\bf= .int .i64 k/\k<=i/\Aside0 (kq+k=i)/\Aside0 (Below w6.heap.size w6 wr/\Kd.R (Kd.int .u8) 5 wr w6.heap.size (fun _=>True) (.slice (some ⟨xb,0,none⟩) m cx) (solveTo st.2 st.1.2 m k)/\ ∀k',k'<k->st.2.length<=k'->entry st.1.2 k' 0=0))
   case atStart=>exact⟨0,rfl,rfl,Nat.zero_le _,⟨by omega⟩,⟨aq.out,HX.out,fun k' h=>by omega⟩⟩
   case round=>
    obtain⟨k,rfl,rfl,hk,ar,HO⟩:=hrel;clear HX aq;by_cases hkl:k<i
    case neg=>
     obtain rfl:k=i:=by omega
     have hres:=HRES.out;rw[badFrom_no k 0 (fun k' _ h2 h3=>HO.out.2.2 k' za h3),if_neg zd]at hres
     simp only[Option.some.injEq,Prod.mk.injEq]at hres;obtain⟨rfl,rfl,rfl⟩:=hres
     go_wp2_with fail
     go_ret3
     exact⟨_,rfl,R_lower HO.out.2.1 ao,X.out.trans (HO.out.1.mono ao)⟩
    have tst:decide ((k:Int)<(i:Int))=true:=by simpa using hkl
    have hAd:=HQ.out.1.hD za;subst hAd;obtain⟨vk,hrk,hvk⟩:=(HQ.out.1.below HO.out.1).LD.row k za;obtain⟨Ak,ck,rfl,hlk,hCk,_⟩:=hvk.out;have hek:=HSH.out.1.eD k za;obtain⟨adk,eAk,aj⟩:=Kd.at_int hCk (0:Int) za (by rw[hek];omega);subst eAk;rw[hek]at hrk
    have hxk:_=some (Value.int .u8 (entry st.1.2 k 0)):=aj;rw[show adk.add (0:Int).toNat=adk from by simp[Addr.add]]at hxk
    have HEN:=aK (show∀e,e=entry st.1.2 k 0->e=entry st.1.2 k 0 from fun _ h=>h);obtain⟨x,ex⟩: ∃x,x=entry st.1.2 k 0:=⟨_,rfl⟩
    rw[<-ex]at hxk
    have EX:=aK ex;clear ex aj hCk hvk;by_cases hpl:k<st.2.length
    case neg=>
     have a5:decide (k<st.2.length)=false:=by simpa using hpl
     by_cases Z:x=0
     case neg=>
      have a6:(x !=0)=true:=bne_iff_ne.mpr Z;have hres:=HRES.out;rw[if_pos (badFrom_yes i 0 k (Nat.zero_le _) za za (by rw[<-EX.out];exact Z))]at hres
      simp only[Option.some.injEq,Prod.mk.injEq]at hres;obtain⟨rfl,rfl,rfl⟩:=hres;clear Z
      go_wp2_with fail
      go_ret3
      exact⟨_,rfl,R_nil _ _ _ _ _,X.out.trans (HO.out.1.mono ao)⟩
     have a6:(x !=0)=false:=bne_eq_false_iff_eq.mpr Z;have HN:=aK (show Below w6.heap.size w6 wr/\Kd.R (Kd.int .u8) 5 wr w6.heap.size (fun _=>True) (.slice (some ⟨xb,0,none⟩) m cx) (solveTo st.2 st.1.2 m (k+1))/\ ∀k',k'<k+1->st.2.length<=k'->entry st.1.2 k' 0=0 from by
      refine⟨HO.out.1,?_,fun k' h1 h2=>?_⟩
      ·unfold solveTo;rw[if_neg hpl];exact HO.out.2.1
      ·rcases Nat.lt_or_eq_of_le (Nat.le_of_lt_succ h1)with h|h
       ·exact HO.out.2.2 k' h h2
       ·rw[h,<-EX.out,Z])
     clear HO Z
     go_wp2_with fail
     go_roundg (i-(k+1))
     case measure=>have:=ar.out;omega
     case rel=>exact⟨k+1,rfl,by go_num,by omega,⟨by omega⟩,HN⟩
    have a5:decide (k<st.2.length)=true:=by simpa using hpl
    obtain⟨a3,bc⟩:=HPV.out k hpl;obtain⟨adp,eAp,ak⟩:=Kd.at_int (R_reads' (R_below HQ.out.2.1 HO.out.1)).2.2 (k:Int) za za;subst eAp;have hxp:wr.cell? (adp.add k)=some (.int .i64 (st.2.getD k 0)):=by
     rw[show st.2.getD k 0=rd st.2 (k:Int)from by simp[rd]];simpa using ak
    obtain⟨p,ep⟩: ∃p,p=st.2.getD k 0:=⟨_,rfl⟩
    rw[<-ep]at hxp a3 bc
    have EP:=aK ep;clear ep ak;obtain⟨P,rfl⟩:=Int.eq_ofNat_of_zero_le a3;have hPm:P<m:=by omega
    obtain⟨an,ax⟩:wr.cell? ⟨xb,P,none⟩=some (.int .u8 ((solveTo st.2 st.1.2 m k).getD P 0))/\wr.frozen? ⟨xb,P,none⟩=false:=by
     have hr:=HO.out.2.1;have h1:=Kd.reads_of_C (enc:=Value.int .u8) (d:=(0:Int)) (h1:=fun _=>rfl) (R_reads' hr).2.2;rw[solveTo_length]at h1
     obtain⟨_,cells,hcc⟩:=own_addr (b:=xb) hr rfl;obtain⟨bp,a8,hcell⟩:=h1.2.2 za
     cases a8
     refine⟨?_,by simp[World.frozen?,hcc]⟩;rw[show(⟨xb,P,none⟩:Addr)=(⟨xb,0,none⟩:Addr).add P from by unfold Addr.add;by_cases e:P=0<;>simp[e]];exact hcell P hPm
    go_wp2_with fail
    have hkz:(0:Int)<=(k:Int):=by omega
    have bj:(k:Int)<(st.2.length:Int):=by omega
    have hPz:(0:Int)<=(P:Int):=by omega
    have bh:(P:Int)<(m:Int):=by omega
    have hadd:(⟨xb,0,none⟩:Addr).add P=⟨xb,P,none⟩:=by unfold Addr.add;by_cases e:P=0<;>simp[e]
    refine start_ (n:=10) (S:=fun w'=>w'.cell? (adp.add k)=some (.int .i64 P)/\w'.cell? adk=some (.int .u8 x)) (ds:= [9]) (mB 10 0) zc rfl rfl ⟨hxp,hxk⟩ (fun hHeld=>?_);have ab:=aK (show Below w6.heap.size w6 wr.drew/\Kd.R (Kd.int .u8) 5 wr.drew w6.heap.size (fun _=>True) (.slice (some ⟨xb,0,none⟩) m cx) (solveTo st.2 st.1.2 m k)/\ ∀k',k'<k->st.2.length<=k'->entry st.1.2 k' 0=0 from⟨HO.out.1.trans (below_drew (Below.refl _ _) |>.mono HO.out.1.size),R_drew HO.out.2.1,HO.out.2.2⟩);have hc1':wr.drew.cell? ⟨xb,P,none⟩=some (.int .u8 ((solveTo st.2 st.1.2 m k).getD P 0)):=an;have hc2':wr.drew.frozen? ⟨xb,P,none⟩=false:=ax;clear HO hrk hxk hxp an ax;generalize wr.drew=w8 at*;refine zpu 0 (some 64) (mB 10 1) ?_;refine zpu 1 (some 65) (mB 10 3) ?_;refine zpu 2 (some 66) (mB 10 7) ?_;refine zpu 3 (some 67) (mB 10 15) ?_;refine zpu 5 (some 69) (mB 10 47) ?_;refine zpu 6 (some 70) (mB 10 111) ?_;refine ztk2 4 (some 68) (mB 10 127) hHeld ?_;refine ztk2 7 (some 71) (mB 10 255) hHeld ?_;refine zpu 8 (some 72) (mB 10 511) ?_;refine zln 9 (none) (mB 10 1023) fun K hK=>?_;refine zsk ?_;refine hK.out _ _ ?_;clear hK K;refine done_ zc ?_;clear hHeld;have hp:=Kd.R_putn ab.out.2.1 (P:Int) x;rw[Int.toNat_natCast]at hp
    have HN:=aK (show Below w6.heap.size w6 (w8.setCell ⟨xb,P,none⟩ (.int .u8 x))/\Kd.R (Kd.int .u8) 5 (w8.setCell ⟨xb,P,none⟩ (.int .u8 x)) w6.heap.size (fun _=>True) (.slice (some ⟨xb,0,none⟩) m cx) (solveTo st.2 st.1.2 m (k+1))/\ ∀k',k'<k+1->st.2.length<=k'->entry st.1.2 k' 0=0 from by
     refine⟨ab.out.1.setCell (by show w6.heap.size<=xb;omega) _,?_,fun k' h1 h2=>ab.out.2.2 k' za h2⟩;unfold solveTo;rw[if_pos hpl,<-EP.out,<-EX.out,Int.toNat_natCast];exact hp)
    clear ab hp hc1' hc2'
    go_wp2_with fail
    go_roundg (i-(k+1))
    case measure=>have:=ar.out;omega
    case rel=>exact⟨k+1,rfl,by go_num,by omega,⟨by omega⟩,HN⟩
mutual
def gauss_Combine.j0:Nat->List Int->Bool->Int->Int->List Int->Option (List Int×Bool×Int)
 |0,_,_,_,_,_=>none
 |k+1,x1,X,D,G,I=>if X=true then(some (([]:List Int),false,3))else((gauss_First.f D G I).bind fun L=>(if L.2=0 then((matrix_Pick.f D G I L.1).bind fun O=>(if O.2.2.2=0 then((matrix_Transpose.f O.1 O.2.1 O.2.2.1).bind fun U=>(if U.2.2.2=0 then((gauss_Solve.f U.1 U.2.1 U.2.2.1 x1).bind fun J=>(if J.2.2=0 then(gauss_Combine.j1 k J.2.2 L.1 J.1 (!J.2.1) D G I)else(gauss_Combine.j1 k J.2.2 L.1 J.1 true D G I)))else(some (([]:List Int),false,U.2.2.2))))else(some (([]:List Int),false,O.2.2.2))))else(some (([]:List Int),false,L.2))))
def gauss_Combine.j1:Nat->Int->List Int->List Int->Bool->Int->Int->List Int->Option (List Int×Bool×Int)
 |0,_,_,_,_,_,_,_=>none
 |k+1,x6,x7,J,L,D,G,I=>if L=true then(some (([]:List Int),false,x6))else(if 0<=D then(if(D:Int).toNat<=281474976710656 then(gauss_Combine.l0 k (List.replicate (D:Int).toNat 0) J x7 (x7.length:Int) 0)else(none))else(none))
def gauss_Combine.l0:Nat->List Int->List Int->List Int->Int->Int->Option (List Int×Bool×Int)
 |0,_,_,_,_,_=>none
 |k+1,x4,I,G,J,D=>if D<J then(if 0<=D then(if D<(G.length:Int)then(if D<(I.length:Int)then(if 0<=(rd G D)then(if(rd G D)<(x4.length:Int)then(gauss_Combine.l0 k (x4.set ((rd G D):Int).toNat (rd I D)) I G J (wrap64 (D+1)))else(none))else(none))else(none))else(none))else(none))else(some (x4,true,0))
end
def gauss_Combine.f(k:Nat)(G:Int)(D:Int)(I:List Int)(l1:List Int):Option (List Int×Bool×Int):=(matrix_Right.f G D I).bind fun J=>(if J=true then(gauss_Combine.j0 k l1 ((l1.length:Int)!=D) G D I)else(gauss_Combine.j0 k l1 true G D I))
theorem gauss_Combine.mono_l: ∀k,(∀y0 y1 y2 y3 y4,LeO (gauss_Combine.j0 k y0 y1 y2 y3 y4) (gauss_Combine.j0 (k+1) y0 y1 y2 y3 y4))/\(∀y0 y1 y2 y3 y4 y5 y6,LeO (gauss_Combine.j1 k y0 y1 y2 y3 y4 y5 y6) (gauss_Combine.j1 (k+1) y0 y1 y2 y3 y4 y5 y6))/\(∀y0 y1 y2 y3 y4,LeO (gauss_Combine.l0 k y0 y1 y2 y3 y4) (gauss_Combine.l0 (k+1) y0 y1 y2 y3 y4))
 |0=>⟨fun _ _ _ _ _ r h=>by simp[gauss_Combine.j0]at h,fun _ _ _ _ _ _ _ r h=>by simp[gauss_Combine.j1]at h,fun _ _ _ _ _ r h=>by simp[gauss_Combine.l0]at h⟩
 |k+1=>by
  obtain⟨D,G,I⟩:=gauss_Combine.mono_l k;refine⟨?_,?_,?_⟩;all_goals(intros;first|unfold gauss_Combine.j0|unfold gauss_Combine.j1|unfold gauss_Combine.l0)
  all_goals repeat' first|(with_reducible exact D _ _ _ _ _)|(with_reducible exact G _ _ _ _ _ _ _)|(with_reducible exact I _ _ _ _ _)|(with_reducible exact LeO.refl _)|(with_reducible exact LeO.none _)|(with_reducible refine LeO.ite ?_ ?_)|(with_reducible refine LeO.bind ?_ (fun _=>?_))|exact D _ _ _ _ _|exact G _ _ _ _ _ _ _|exact I _ _ _ _ _|exact LeO.none _|refine LeO.ite ?_ ?_|refine LeO.bind ?_ (fun _=>?_)
theorem gauss_Combine.mono: ∀a0 a1 a2 a3 k,LeO (gauss_Combine.f k a0 a1 a2 a3) (gauss_Combine.f (k+1) a0 a1 a2 a3):=by
 intro a0 a1 a2 a3 k;obtain⟨D,G,I⟩:=gauss_Combine.mono_l k;unfold gauss_Combine.f
 with_reducible repeat' first|exact D _ _ _ _ _|exact G _ _ _ _ _ _ _|exact I _ _ _ _ _|exact LeO.refl _|exact LeO.none _|refine LeO.ite ?_ ?_|refine LeO.bind ?_ (fun _=>?_)
theorem gauss_Combine.calls(k:Nat)(O:Int)(Z:Int)(an:Option Addr)(ao:Nat)(X:List Int)(A1:Option Addr)(c1:Nat)(l1:List Int)(r1:List Int)(r2:Bool)(r3:Int)(w:World)(dr:Kd.C (Kd.int .u8) w an X.length X)(dj:X.length<=ao)(gp:Kd.C (Kd.int .u8) w A1 l1.length l1)(e7:l1.length<=c1)(h:gauss_Combine.f k O Z X l1=some (r1,r2,r3)):
 Calls Tryd.prog 36 #[.agg #[.int .i64 O,.int .i64 Z,.slice an X.length ao],.slice A1 l1.length c1] w fun e w'=> ∃v0_:Value,e= .returned (.tuple #[v0_,.bool r2,.int .i64 r3])/\Kd.R (Kd.int .u8) 5 w' w.heap.size (fun _=>True) v0_ r1/\Below w.heap.size w w':=by
 have i5:=Tryd.underlying24;have ay:=aK dr;have ax:=aK dj;clear dr dj;have gz:=aK gp;have gy:=aK e7;clear gp e7;have HB:=aK (Below.refl w.heap.size w);have H:((matrix_Right.f O Z X).bind fun dy=>(if dy=true then(gauss_Combine.j0 k l1 ((l1.length:Int)!=Z) O Z X)else(gauss_Combine.j0 k l1 true O Z X)))=some (r1,r2,r3):=h;clear h;have ei:=aK H;clear H
 go_enter Tryd.func36,Tryd.ntmps36
 go_upto_region 1 with(first|((with_reducible refine gD 2 rfl ?_);(try(refine gate_guard ze ?_;dsimp only));refine bE 2 #[.int .i64 O,.int .i64 Z,.slice an X.length ao] 24 ?_;intro a4 hg w4 hbox hb;have D:=aK (hbox);have gx:=hbS HB hg;have gw:=hbS HB hg;replace HB:=hbB HB hb;clear hb hbox hg))
 (try simp only[Act.put,zL])
 go_cut [22] (fun iu wc=> ∃(kq:Nat) (b4:Bool),iu= .bool b4/\Aside0 (gauss_Combine.j0 kq l1 b4 O Z X=some (r1,r2,r3))/\Aside0 (kq<=k)/\Aside0 (wc.heap[a4]? =some (.cells #[.int .i64 O,.int .i64 Z,(.slice an X.length ao)] 24 (0,0)))/\Aside0 (Below w.heap.size w wc))
 case first=>
  have H:=ei.out;clear ei;obtain⟨dy,A5,H⟩:=bindO H
  (try dsimp only at H)
  by_cases c6:dy=true
  ·subst c6;rw[if_pos rfl]at H
   have H':=aK H;clear H;obtain⟨br,bs,bt,bx,bz,b0⟩:=cell3 D
   go_wp2_with (first|((with_reducible refine gC 56 rfl ?_);refine cG (some 14) Tryd.func56 #[.agg #[.int .i64 O,.int .i64 Z,.slice an X.length ao]] ?_;(with_reducible refine(matrix_Right.calls O Z _ _ X true _ ?side1 ?side2 A5.out).mono ?_);(case side1=>exact kcB ay HB);(case side2=>exact ax.out);rintro e w8 ⟨rfl,hb⟩;refine⟨_,rfl,?_⟩;replace D:=bkB D hb;replace HB:=hbB HB hb;(try clear hb);obtain⟨bu,bv,bw,b1,b2,b3⟩:=cell3 D))
   go_meet
   case rel=>exact⟨_,(((l1.length:Int)!=Z)),rsE,H',⟨leE⟩,⟨bkA D.out⟩,⟨hbA HB.out⟩⟩
  replace c6:=Bool.eq_false_iff.mpr c6;subst c6;rw[if_neg nofT]at H
  have H':=aK H;clear H;obtain⟨ba,bb,bc,bd,be,bf⟩:=cell3 D
  go_wp2_with (first|((with_reducible refine gC 56 rfl ?_);refine cG (some 14) Tryd.func56 #[.agg #[.int .i64 O,.int .i64 Z,.slice an X.length ao]] ?_;(with_reducible refine(matrix_Right.calls O Z _ _ X false _ ?side1 ?side2 A5.out).mono ?_);(case side1=>exact kcB ay HB);(case side2=>exact ax.out);rintro e i8 ⟨rfl,hb⟩;refine⟨_,rfl,?_⟩;replace D:=bkB D hb;replace HB:=hbB HB hb;(try clear hb)))
  go_meet
  case rel=>exact⟨_,(true),rsE,H',⟨leE⟩,⟨bkA D.out⟩,⟨hbA HB.out⟩⟩
 case rest=>
  clear ei
  (try clear c1);(try clear p2);(try clear c3);(try clear c5);(try clear c6);(try clear ba bb bc bd be bf);(try clear br bs bt bx bz b0);(try clear bu bv bw b1 b2 b3)
  obtain⟨kq,b4,rfl,HA,d2,D,HB⟩:=hcut
  cases kq with
  |zero=>exact absurd HA.out (by simp[gauss_Combine.j0])
  |succ it=>
   have H:=HA.out;clear HA;simp only[gauss_Combine.j0]at H;by_cases cx:b4=true
   ·subst cx;rw[if_pos rfl]at H
    obtain⟨rfl,rfl,rfl⟩:=zP3 H;go_wp2
    go_ret3
    exact⟨_,rfE,nilE,hbA HB.out⟩
   replace cx:=Bool.eq_false_iff.mpr cx;subst cx;rw[if_neg nofT]at H
   obtain⟨⟨U,a3⟩,d1,H⟩:=bindO H
   (try dsimp only at H)
   by_cases bm:a3=0
   case neg=>
    rw[if_neg bm]at H
    have c14b0:(a3==0)=false:=beq_eq_false_iff_ne.mpr bm;have c14b1:(a3 !=0)=true:=bne_iff_ne.mpr bm;obtain⟨rfl,rfl,rfl⟩:=zP3 H;obtain⟨fv,fw,fx,gl,gm,gn⟩:=cell3 D
    go_wp2_with (first|((with_reducible refine gC 68 rfl ?_);refine cG (some 25) Tryd.func68 #[.agg #[.int .i64 O,.int .i64 Z,.slice an X.length ao]] ?_;(with_reducible refine(gauss_First.calls O Z _ _ X U a3 _ ?side1 ?side2 d1.out).mono ?_);(case side1=>exact kcB ay HB);(case side2=>exact ax.out);rintro e jo ⟨dz,rfl,ag,hb⟩;refine⟨_,rfl,?_⟩;have I:=aK (R_lower ag (below_size (hbA HB.out)));replace D:=bkB D hb;replace HB:=hbB HB hb;(try clear hb);(try clear ag)))
    go_ret3
    exact⟨_,rfE,nilE,hbA HB.out⟩
   rw[if_pos bm]at H
   have c14b0:(a3==0)=true:=beq_iff_eq.mpr bm;have c14b1:(a3 !=0)=false:=bne_eq_false_iff_eq.mpr bm;clear bm;obtain⟨⟨ae,af,Y,a7⟩,ef,H⟩:=bindO H
   (try dsimp only at H)
   by_cases bn:a7=0
   case neg=>
    rw[if_neg bn]at H
    have c16b0:(a7==0)=false:=beq_eq_false_iff_ne.mpr bn;have c16b1:(a7 !=0)=true:=bne_iff_ne.mpr bn;obtain⟨rfl,rfl,rfl⟩:=zP3 H;obtain⟨fk,fl,fm,ga,gb,gc⟩:=cell3 D
    go_wp2_with (first|((with_reducible refine gC 68 rfl ?_);refine cG (some 25) Tryd.func68 #[.agg #[.int .i64 O,.int .i64 Z,.slice an X.length ao]] ?_;(with_reducible refine(gauss_First.calls O Z _ _ X U a3 _ ?side1 ?side2 d1.out).mono ?_);(case side1=>exact kcB ay HB);(case side2=>exact ax.out);rintro e jl ⟨dz,rfl,ag,hb⟩;refine⟨_,rfl,?_⟩;have I:=aK (R_lower ag (below_size (hbA HB.out)));replace D:=bkB D hb;replace HB:=hbB HB hb;(try clear hb);(try clear ag);obtain⟨fo,fp,fq,ge,gf,gg⟩:=cell3 D;obtain⟨ep,eu,e4⟩:=R_slice I.out;subst e4)|((with_reducible refine gC 34 rfl ?_);refine cG (some 34) Tryd.func34 #[.agg #[.int .i64 O,.int .i64 Z,.slice an X.length ao],.slice ep U.length eu] ?_;(with_reducible refine(matrix_Pick.calls O Z _ _ X _ _ U ae af Y a7 _ ?side1 ?side2 ?side3 ?side4 ef.out).mono ?_);(case side1=>exact kcB ay HB);(case side2=>exact ax.out);(case side3=>exact kcA (R_reads' I.out).2.2);(case side4=>exact(R_reads' I.out).2.1);rintro e jm ⟨ed,rfl,ag,hb⟩;refine⟨_,rfl,?_⟩;replace I:=kdB I hb;have L:=aK (R_lower ag (below_size (hbA HB.out)));replace D:=bkB D hb;replace HB:=hbB HB hb;(try clear hb);(try clear ag))|((with_reducible refine gD 8 rfl ?_);(try(refine gate_guard ze ?_;dsimp only));refine bE 8 #[.int .i64 0,.int .i64 0,.slice none 0 0] 24 ?_;intro a2 hg jn hbox hb;replace I:=kdB I hb;replace L:=kdB L hb;have G:=aK (hbox);have db:=hbS HB hg;have da:=hbS HB hg;replace HB:=hbB HB hb;have aa:=neL D hg;have ap:=neG D hg;replace D:=bkB D hb;clear hb hbox hg;have ig:=ap.out;have ir:=aa.out;obtain⟨fs,ft,fu,gh,gi,gj⟩:=cell3 G;obtain⟨iz,i4,e5⟩:=R_slice L.out;subst e5))
    go_ret3
    exact⟨_,rfE,nilE,hbA HB.out⟩
   rw[if_pos bn]at H
   have c16b0:(a7==0)=true:=beq_iff_eq.mpr bn;have c16b1:(a7 !=0)=false:=bne_eq_false_iff_eq.mpr bn;clear bn;obtain⟨⟨au,aw,ac,bi⟩,en,H⟩:=bindO H
   (try dsimp only at H)
   by_cases bo:bi=0
   case neg=>
    rw[if_neg bo]at H
    have c18b0:(bi==0)=false:=beq_eq_false_iff_ne.mpr bo;have c18b1:(bi !=0)=true:=bne_iff_ne.mpr bo;obtain⟨rfl,rfl,rfl⟩:=zP3 H;obtain⟨e8,e9,fa,fy,fz,f0⟩:=cell3 D
    go_wp2_with (first|((with_reducible refine gC 68 rfl ?_);refine cG (some 25) Tryd.func68 #[.agg #[.int .i64 O,.int .i64 Z,.slice an X.length ao]] ?_;(with_reducible refine(gauss_First.calls O Z _ _ X U a3 _ ?side1 ?side2 d1.out).mono ?_);(case side1=>exact kcB ay HB);(case side2=>exact ax.out);rintro e jg ⟨dz,rfl,ag,hb⟩;refine⟨_,rfl,?_⟩;have I:=aK (R_lower ag (below_size (hbA HB.out)));replace D:=bkB D hb;replace HB:=hbB HB hb;(try clear hb);(try clear ag);obtain⟨fb,fc,fd,f1,f2,f3⟩:=cell3 D;obtain⟨eo,et,e1⟩:=R_slice I.out;subst e1)|((with_reducible refine gC 34 rfl ?_);refine cG (some 34) Tryd.func34 #[.agg #[.int .i64 O,.int .i64 Z,.slice an X.length ao],.slice eo U.length et] ?_;(with_reducible refine(matrix_Pick.calls O Z _ _ X _ _ U ae af Y a7 _ ?side1 ?side2 ?side3 ?side4 ef.out).mono ?_);(case side1=>exact kcB ay HB);(case side2=>exact ax.out);(case side3=>exact kcA (R_reads' I.out).2.2);(case side4=>exact(R_reads' I.out).2.1);rintro e jh ⟨ed,rfl,ag,hb⟩;refine⟨_,rfl,?_⟩;replace I:=kdB I hb;have L:=aK (R_lower ag (below_size (hbA HB.out)));replace D:=bkB D hb;replace HB:=hbB HB hb;(try clear hb);(try clear ag))|((with_reducible refine gD 8 rfl ?_);(try(refine gate_guard ze ?_;dsimp only));refine bE 8 #[.int .i64 0,.int .i64 0,.slice none 0 0] 24 ?_;intro a2 hg ji hbox hb;replace I:=kdB I hb;replace L:=kdB L hb;have G:=aK (hbox);have db:=hbS HB hg;have da:=hbS HB hg;replace HB:=hbB HB hb;have aa:=neL D hg;have ap:=neG D hg;replace D:=bkB D hb;clear hb hbox hg;have ib:=ap.out;have io:=aa.out;obtain⟨fe,ff,fg,f4,f5,f6⟩:=cell3 G;obtain⟨bl,a9,e2⟩:=R_slice L.out;subst e2)|((with_reducible refine gC 69 rfl ?_);refine cG (some 42) Tryd.func69 #[.agg #[.int .i64 ae,.int .i64 af,.slice bl Y.length a9]] ?_;(with_reducible refine(matrix_Transpose.calls ae af _ _ Y au aw ac bi _ ?side1 ?side2 en.out).mono ?_);(case side1=>refine(R_reads' (e:=5) (base:=w.heap.size) (ok:=fun k_=>True) (n:=Y.length) (c:=a9) ?_).2.2;exact(by(with_reducible repeat(first|apply R_alloc|apply R_drewN|apply R_drew));exact(zF L.out G.out  (.int .i64 ae)  (.int .i64 af)  (.slice bl Y.length a9))));(case side2=>exact(R_reads' L.out).2.1);rintro e jj ⟨gs,rfl,ag,hb⟩;refine⟨_,rfl,?_⟩;replace I:=aK (R_below (by(with_reducible repeat(first|apply R_alloc|apply R_drewN|apply R_drew));exact(zF I.out G.out  (.int .i64 ae)  (.int .i64 af)  (.slice bl Y.length a9))) hb);have am:=aK (R_lower (R_new' ag (R_lt (by(with_reducible repeat(first|apply R_alloc|apply R_drewN|apply R_drew));exact(zF L.out G.out  (.int .i64 ae)  (.int .i64 af)  (.slice bl Y.length a9))))) (below_size (hbA HB.out)));replace L:=aK (R_elder' (by(with_reducible repeat(first|apply R_alloc|apply R_drewN|apply R_drew));exact(zF L.out G.out  (.int .i64 ae)  (.int .i64 af)  (.slice bl Y.length a9))) (R_base ag) hb);replace D:=aK (blk_below (g:=a4) (o:= .cells #[.int .i64 O,.int .i64 Z,.slice an X.length ao] 24 (0,0)) zay hb);replace G:=aK (blk_below (g:=a2) (o:= .cells #[.int .i64 ae,.int .i64 af,.slice bl Y.length a9] 24 (0,0)) zar hb);replace HB:=hbB HB hb;(try clear hb);(try clear ag))|((with_reducible refine gD 9 rfl ?_);(try(refine gate_guard ze ?_;dsimp only));refine bE 9 #[.int .i64 0,.int .i64 0,.slice none 0 0] 24 ?_;intro bq hg jk hbox hb;replace I:=kdB I hb;replace L:=kdB L hb;replace am:=kdB am hb;have ab:=aK (hbox);have eh:=hbS HB hg;have eg:=hbS HB hg;replace HB:=hbB HB hb;have aj:=neL D hg;have az:=neG D hg;replace D:=bkB D hb;have aq:=neL G hg;have a1:=neG G hg;replace G:=bkB G hb;clear hb hbox hg;have ic:=az.out;have ip:=aj.out;have ie:=a1.out;have iq:=aq.out;obtain⟨fh,fi,fj,f7,f8,f9⟩:=cell3 ab;obtain⟨iy,i3,e3⟩:=R_slice am.out;subst e3))
    go_ret3
    exact⟨_,rfE,nilE,hbA HB.out⟩
   rw[if_pos bo]at H
   have c18b0:(bi==0)=true:=beq_iff_eq.mpr bo;have c18b1:(bi !=0)=false:=bne_eq_false_iff_eq.mpr bo;clear bo;obtain⟨⟨ar,ec,bj⟩,gv,H⟩:=bindO H
   (try dsimp only at H)
   have dc:=aK H;clear H;obtain⟨b5,b6,b7,ci,cj,ck⟩:=cell3 D
   go_upto_region 13 with(first|((with_reducible refine gC 68 rfl ?_);refine cG (some 25) Tryd.func68 #[.agg #[.int .i64 O,.int .i64 Z,.slice an X.length ao]] ?_;(with_reducible refine(gauss_First.calls O Z _ _ X U a3 _ ?side1 ?side2 d1.out).mono ?_);(case side1=>exact kcB ay HB);(case side2=>exact ax.out);rintro e i9 ⟨dz,rfl,ag,hb⟩;refine⟨_,rfl,?_⟩;have I:=aK (R_lower ag (below_size (hbA HB.out)));replace D:=bkB D hb;replace HB:=hbB HB hb;(try clear hb);(try clear ag);obtain⟨b8,b9,ca,cl,cm,cn⟩:=cell3 D;obtain⟨c9,dh,ex⟩:=R_slice I.out;subst ex)|((with_reducible refine gC 34 rfl ?_);refine cG (some 34) Tryd.func34 #[.agg #[.int .i64 O,.int .i64 Z,.slice an X.length ao],.slice c9 U.length dh] ?_;(with_reducible refine(matrix_Pick.calls O Z _ _ X _ _ U ae af Y a7 _ ?side1 ?side2 ?side3 ?side4 ef.out).mono ?_);(case side1=>exact kcB ay HB);(case side2=>exact ax.out);(case side3=>exact kcA (R_reads' I.out).2.2);(case side4=>exact(R_reads' I.out).2.1);rintro e ja ⟨ed,rfl,ag,hb⟩;refine⟨_,rfl,?_⟩;replace I:=kdB I hb;have L:=aK (R_lower ag (below_size (hbA HB.out)));replace D:=bkB D hb;replace HB:=hbB HB hb;(try clear hb);(try clear ag))|((with_reducible refine gD 8 rfl ?_);(try(refine gate_guard ze ?_;dsimp only));refine bE 8 #[.int .i64 0,.int .i64 0,.slice none 0 0] 24 ?_;intro a2 hg jb hbox hb;replace I:=kdB I hb;replace L:=kdB L hb;have G:=aK (hbox);have db:=hbS HB hg;have da:=hbS HB hg;replace HB:=hbB HB hb;have aa:=neL D hg;have ap:=neG D hg;replace D:=bkB D hb;clear hb hbox hg;have g6:=ap.out;have ii:=aa.out;obtain⟨cb,cd,ce,co,cp,cq⟩:=cell3 G;obtain⟨ak,ah,ey⟩:=R_slice L.out;subst ey)|((with_reducible refine gC 69 rfl ?_);refine cG (some 42) Tryd.func69 #[.agg #[.int .i64 ae,.int .i64 af,.slice ak Y.length ah]] ?_;(with_reducible refine(matrix_Transpose.calls ae af _ _ Y au aw ac bi _ ?side1 ?side2 en.out).mono ?_);(case side1=>refine(R_reads' (e:=5) (base:=w.heap.size) (ok:=fun k_=>True) (n:=Y.length) (c:=ah) ?_).2.2;exact(by(with_reducible repeat(first|apply R_alloc|apply R_drewN|apply R_drew));exact(zF L.out G.out  (.int .i64 ae)  (.int .i64 af)  (.slice ak Y.length ah))));(case side2=>exact(R_reads' L.out).2.1);rintro e jc ⟨gs,rfl,ag,hb⟩;refine⟨_,rfl,?_⟩;replace I:=aK (R_below (by(with_reducible repeat(first|apply R_alloc|apply R_drewN|apply R_drew));exact(zF I.out G.out  (.int .i64 ae)  (.int .i64 af)  (.slice ak Y.length ah))) hb);have am:=aK (R_lower (R_new' ag (R_lt (by(with_reducible repeat(first|apply R_alloc|apply R_drewN|apply R_drew));exact(zF L.out G.out  (.int .i64 ae)  (.int .i64 af)  (.slice ak Y.length ah))))) (below_size (hbA HB.out)));replace L:=aK (R_elder' (by(with_reducible repeat(first|apply R_alloc|apply R_drewN|apply R_drew));exact(zF L.out G.out  (.int .i64 ae)  (.int .i64 af)  (.slice ak Y.length ah))) (R_base ag) hb);replace D:=aK (blk_below (g:=a4) (o:= .cells #[.int .i64 O,.int .i64 Z,.slice an X.length ao] 24 (0,0)) zay hb);replace G:=aK (blk_below (g:=a2) (o:= .cells #[.int .i64 ae,.int .i64 af,.slice ak Y.length ah] 24 (0,0)) zar hb);replace HB:=hbB HB hb;(try clear hb);(try clear ag))|((with_reducible refine gD 9 rfl ?_);(try(refine gate_guard ze ?_;dsimp only));refine bE 9 #[.int .i64 0,.int .i64 0,.slice none 0 0] 24 ?_;intro bq hg jd hbox hb;replace I:=kdB I hb;replace L:=kdB L hb;replace am:=kdB am hb;have ab:=aK (hbox);have eh:=hbS HB hg;have eg:=hbS HB hg;replace HB:=hbB HB hb;have aj:=neL D hg;have az:=neG D hg;replace D:=bkB D hb;have aq:=neL G hg;have a1:=neG G hg;replace G:=bkB G hb;clear hb hbox hg;have g7:=az.out;have ij:=aj.out;have g8:=a1.out;have ik:=aq.out;obtain⟨cf,cg,ch,cr,ct,cu⟩:=cell3 ab;obtain⟨al,ai,ez⟩:=R_slice am.out;subst ez)|((with_reducible refine gC 70 rfl ?_);refine cG (some 51) Tryd.func70 #[.agg #[.int .i64 au,.int .i64 aw,.slice al ac.length ai],.slice A1 l1.length c1] ?_;(with_reducible refine(gauss_Solve.calls au aw _ _ ac _ _ l1 ar ec bj _ ?side1 ?side2 ?side3 ?side4 gv.out).mono ?_);(case side1=>refine(R_reads' (e:=5) (base:=w.heap.size) (ok:=fun k_=>(True/\some k_≠(.slice ak Y.length ah:Value).ownBlock)) (n:=ac.length) (c:=ai) ?_).2.2;exact(by(with_reducible repeat(first|apply R_alloc|apply R_drewN|apply R_drew));exact(zF am.out ab.out  (.int .i64 au)  (.int .i64 aw)  (.slice al ac.length ai))));(case side2=>exact(R_reads' am.out).2.1);(case side3=>exact C_below gz.out (hbA HB.out));(case side4=>exact gy.out);rintro e je ⟨bk,rfl,ag,hb⟩;refine⟨_,rfl,?_⟩;replace I:=aK (R_below (by(with_reducible repeat(first|apply R_alloc|apply R_drewN|apply R_drew));exact(zF I.out ab.out  (.int .i64 au)  (.int .i64 aw)  (.slice al ac.length ai))) hb);have dd:=aK (R_lower (R_new' (R_new' ag (R_lt (by(with_reducible repeat(first|apply R_alloc|apply R_drewN|apply R_drew));exact(zF L.out ab.out  (.int .i64 au)  (.int .i64 aw)  (.slice al ac.length ai))))) (R_lt (by(with_reducible repeat(first|apply R_alloc|apply R_drewN|apply R_drew));exact(zF am.out ab.out  (.int .i64 au)  (.int .i64 aw)  (.slice al ac.length ai))))) (below_size (hbA HB.out)));replace L:=aK (R_elder' (by(with_reducible repeat(first|apply R_alloc|apply R_drewN|apply R_drew));exact(zF L.out ab.out  (.int .i64 au)  (.int .i64 aw)  (.slice al ac.length ai))) (R_base ag) hb);replace am:=aK (R_elder' (by(with_reducible repeat(first|apply R_alloc|apply R_drewN|apply R_drew));exact(zF am.out ab.out  (.int .i64 au)  (.int .i64 aw)  (.slice al ac.length ai))) (R_base ag) hb);replace D:=aK (blk_below (g:=a4) (o:= .cells #[.int .i64 O,.int .i64 Z,.slice an X.length ao] 24 (0,0)) (by refine bkR ?_;refine blk_far ?_ aj.out _;refine bkR ?_;refine blk_far ?_ aj.out _;refine bkR ?_;refine blk_far ?_ aj.out _;refine bkR ?_;exact D.out) hb);replace G:=aK (blk_below (g:=a2) (o:= .cells #[.int .i64 ae,.int .i64 af,.slice ak Y.length ah] 24 (0,0)) (by refine bkR ?_;refine blk_far ?_ aq.out _;refine bkR ?_;refine blk_far ?_ aq.out _;refine bkR ?_;refine blk_far ?_ aq.out _;refine bkR ?_;exact G.out) hb);replace ab:=aK (blk_below (g:=bq) (o:= .cells #[.int .i64 au,.int .i64 aw,.slice al ac.length ai] 24 (0,0)) (by refine bkR ?_;refine blk_put (cs:= #[.int .i64 au,.int .i64 aw,.slice none 0 0]) ?_ 2 _ rfl;refine bkR ?_;refine blk_put (cs:= #[.int .i64 au,.int .i64 0,.slice none 0 0]) ?_ 1 _ rfl;refine bkR ?_;refine blk_put (cs:= #[.int .i64 0,.int .i64 0,.slice none 0 0]) ?_ 0 _ rfl;refine bkR ?_;exact ab.out) hb);replace HB:=hbB HB hb;(try clear hb);(try clear ag)))
   (try simp only[Act.put,zL])
   go_cut [60] (fun iv wc=> ∃(kq:Nat) (a8:Bool),iv= .bool a8/\Aside0 (gauss_Combine.j1 kq bj U ar a8 O Z X=some (r1,r2,r3))/\Aside0 (kq<=it)/\Aside0 (Kd.R (Kd.int .i64) 3 wc w.heap.size (fun _=>True) (.slice c9 U.length dh) U)/\Aside0 (Kd.R (Kd.int .u8) 5 wc w.heap.size (fun k_=>some k_≠((.slice ak Y.length ah):Value).ownBlock/\some k_≠((.slice al ac.length ai):Value).ownBlock) bk ar)/\Aside0 (Kd.R (Kd.int .u8) 5 wc w.heap.size (fun k_=>some k_≠(bk:Value).ownBlock/\some k_≠((.slice al ac.length ai):Value).ownBlock) (.slice ak Y.length ah) Y)/\Aside0 (Kd.R (Kd.int .u8) 5 wc w.heap.size (fun k_=>some k_≠(bk:Value).ownBlock/\some k_≠((.slice ak Y.length ah):Value).ownBlock) (.slice al ac.length ai) ac)/\Aside0 (wc.heap[a4]? =some (.cells #[.int .i64 O,.int .i64 Z,(.slice an X.length ao)] 24 (0,0)))/\Aside0 (wc.heap[a2]? =some (.cells #[.int .i64 ae,.int .i64 af,(.slice ak Y.length ah)] 24 (0,0)))/\Aside0 (wc.heap[bq]? =some (.cells #[.int .i64 au,.int .i64 aw,(.slice al ac.length ai)] 24 (0,0)))/\Aside0 (Below w.heap.size w wc))
   case first=>
    have H:=dc.out;clear dc;by_cases bp:bj=0
    case neg=>
     rw[if_neg bp]at H
     have c37b0:(bj==0)=false:=beq_eq_false_iff_ne.mpr bp;have c37b1:(bj !=0)=true:=bne_iff_ne.mpr bp
     (first|rw[c37b0] |(simp only[i64_w,i32_w];rw[c37b0])|skip)
     have H':=aK H;clear H;go_wp2
     go_meet
     case rel=>exact⟨_,(true),rsE,H',⟨by have:=d2.out;first|omega|exact Nat.le_refl _⟩,⟨kdA I.out⟩,⟨by(with_reducible repeat(first|apply R_alloc|apply R_drewN|apply R_drew));exact R_mono dd.out (fun _ hk=>⟨hk.1.2,hk.2⟩)⟩,⟨by(with_reducible repeat(first|apply R_alloc|apply R_drewN|apply R_drew));exact R_mono L.out (fun _ hk=>⟨hk.2,hk.1.2⟩)⟩,⟨by(with_reducible repeat(first|apply R_alloc|apply R_drewN|apply R_drew));exact R_mono am.out (fun _ hk=>⟨hk.2,hk.1.2⟩)⟩,⟨bkA D.out⟩,⟨bkA G.out⟩,⟨bkA ab.out⟩,⟨hbA HB.out⟩⟩
    rw[if_pos bp]at H
    have c37b0:(bj==0)=true:=beq_iff_eq.mpr bp;have c37b1:(bj !=0)=false:=bne_eq_false_iff_eq.mpr bp;clear bp
    (first|rw[c37b0] |(simp only[i64_w,i32_w];rw[c37b0])|skip)
    have H':=aK H;clear H;go_wp2
    go_meet
    case rel=>exact⟨_,(!ec),rsE,H',⟨by have:=d2.out;first|omega|exact Nat.le_refl _⟩,⟨kdA I.out⟩,⟨by(with_reducible repeat(first|apply R_alloc|apply R_drewN|apply R_drew));exact R_mono dd.out (fun _ hk=>⟨hk.1.2,hk.2⟩)⟩,⟨by(with_reducible repeat(first|apply R_alloc|apply R_drewN|apply R_drew));exact R_mono L.out (fun _ hk=>⟨hk.2,hk.1.2⟩)⟩,⟨by(with_reducible repeat(first|apply R_alloc|apply R_drewN|apply R_drew));exact R_mono am.out (fun _ hk=>⟨hk.2,hk.1.2⟩)⟩,⟨bkA D.out⟩,⟨bkA G.out⟩,⟨bkA ab.out⟩,⟨hbA HB.out⟩⟩
   case rest=>
    clear dc
    (try clear c1);(try clear c2);(try clear p2 p2);(try clear c3);(try clear c5);(try clear c6);(try clear c7);(try clear cx);(try clear bm);(try clear c14b0);(try clear c14b1);(try clear bn);(try clear c16b0);(try clear c16b1);(try clear bo);(try clear c18b0);(try clear c18b1);(try clear g1);(try clear g2);(try clear g3);(try clear g4);(try clear g5);(try clear bp);(try clear c37b0);(try clear c37b1);(try clear ba bb bc bd be bf);(try clear b5 b6 b7 ci cj ck);(try clear b8 b9 ca cl cm cn);(try clear cb cd ce co cp cq);(try clear cf cg ch cr ct cu);(try clear br bs bt bx bz b0);(try clear bu bv bw b1 b2 b3)
    obtain⟨kq,a8,rfl,HA,d9,HO_7,HO_10,HO_153002,HO_160002,D,G,ab,HB⟩:=hcut
    cases kq with
    |zero=>exact absurd HA.out (by simp[gauss_Combine.j1])
    |succ dt=>
     have H:=HA.out;clear HA;simp only[gauss_Combine.j1]at H;by_cases dg:a8=true
     ·subst dg;rw[if_pos rfl]at H
      obtain⟨rfl,rfl,rfl⟩:=zP3 H;go_wp2
      go_ret3
      exact⟨_,rfE,nilE,hbA HB.out⟩
     replace dg:=Bool.eq_false_iff.mpr dg;subst dg;rw[if_neg nofT]at H
     by_cases cy:0<=O
     case neg=>rw[if_neg cy]at H;exact absurd H zd
     rw[if_pos cy]at H
     have c39b0:=eq_true cy;have c39b1:decide (0<=O)=true:=decide_eq_true cy;clear cy;by_cases cz:(O:Int).toNat<=281474976710656
     case neg=>rw[if_neg cz]at H;exact absurd H zd
     rw[if_pos cz]at H
     have c40b0:=eq_true cz;have c40b1:decide ((O:Int).toNat<=281474976710656)=true:=decide_eq_true cz;clear cz;obtain⟨ee,bg⟩: ∃y_:List Int,y_=(List.replicate (O:Int).toNat 0):=⟨_,rfl⟩
     replace H:(gauss_Combine.l0 dt ee ar U (U.length:Int) 0)=some (r1,r2,r3):=zH bg H
     have df:=aK bg;clear bg;have H':=aK H;clear H;have g9:=aa.out;have il:=ap.out;have ia:=aj.out;have im:=az.out;obtain⟨dk,dl,dm,dn,dp,dq⟩:=cell3 D
     go_wp2_with (first|((with_reducible refine gate_dst (N:=64) rfl ?_);(try(refine gate_guard ze ?_;dsimp only));refine Kd.R_make (Kd.int .u8) _ 5 rfl (N:=64) rfl 22 _ _ rfl O rfl rfl Tryd.underlying22 (.int .u8 0) 1 info5 rfl zb za 0 (ok:=fun _=>True) (okp:=fun _=>True) rfl (fun _ hk=>hk) trivial (of_decide_eq_true asE) (Nat.le_trans (Nat.mul_le_mul_right _ (of_decide_eq_true asE:O.toNat<=281474976710656)) za) (Below.refl _ _) (Nat.le_refl _) ?_;intro cw jf a6 hb hg_ hnew_;clear hg_ hnew_;(first|rw[<-df.out]at a6|(simp only[Int.reduceToNat]at a6;rw[<-df.out]at a6));replace HO_7:=kdB HO_7 hb;have ej:=aK (R_lower (R_new' (R_new' (R_new' a6 (R_lt (kdA HO_10.out))) (R_lt (kdA HO_153002.out))) (R_lt (kdA HO_160002.out))) (below_size (hbA HB.out)));replace HO_10:=aK (R_elder' (kdA HO_10.out) (R_base a6) hb);replace HO_153002:=aK (R_elder' (kdA HO_153002.out) (R_base a6) hb);replace HO_160002:=aK (R_elder' (kdA HO_160002.out) (R_base a6) hb);replace D:=bkB D hb;replace G:=bkB G hb;replace ab:=bkB ab hb;replace HB:=hbB HB hb;clear hb a6))
     go_loopg [67] dt (fun kq iw w'=> ∃(av:List Int) (J:Int),iw= .int .i64 J/\Aside0 (gauss_Combine.l0 kq av ar U (U.length:Int) J=some (r1,r2,r3))/\Aside0 (kq<=dt)/\Aside0 (Kd.R (Kd.int .u8) 5 w' w.heap.size (fun k_=>some k_≠(bk:Value).ownBlock/\some k_≠((.slice ak Y.length ah):Value).ownBlock/\some k_≠((.slice al ac.length ai):Value).ownBlock) cw av)/\Aside0 (Kd.R (Kd.int .u8) 5 w' w.heap.size (fun k_=>some k_≠(cw:Value).ownBlock/\some k_≠((.slice ak Y.length ah):Value).ownBlock/\some k_≠((.slice al ac.length ai):Value).ownBlock) bk ar)/\Aside0 (Kd.R (Kd.int .i64) 3 w' w.heap.size (fun _=>True) (.slice c9 U.length dh) U)/\Aside0 (Kd.R (Kd.int .u8) 5 w' w.heap.size (fun k_=>some k_≠(cw:Value).ownBlock/\some k_≠(bk:Value).ownBlock/\some k_≠((.slice al ac.length ai):Value).ownBlock) (.slice ak Y.length ah) Y)/\Aside0 (Kd.R (Kd.int .u8) 5 w' w.heap.size (fun k_=>some k_≠(cw:Value).ownBlock/\some k_≠(bk:Value).ownBlock/\some k_≠((.slice ak Y.length ah):Value).ownBlock) (.slice al ac.length ai) ac)/\Aside0 (w'.heap[a4]? =some (.cells #[.int .i64 O,.int .i64 Z,(.slice an X.length ao)] 24 (0,0)))/\Aside0 (w'.heap[a2]? =some (.cells #[.int .i64 ae,.int .i64 af,(.slice ak Y.length ah)] 24 (0,0)))/\Aside0 (w'.heap[bq]? =some (.cells #[.int .i64 au,.int .i64 aw,(.slice al ac.length ai)] 24 (0,0)))/\Aside0 (Below w.heap.size w w'))
     case atStart=>exact⟨(ee),(0),rsE,H',⟨Nat.le_refl _⟩,⟨by(with_reducible repeat(first|apply R_alloc|apply R_drewN|apply R_drew));exact R_mono ej.out (fun _ hk=>⟨hk.1.1.2,⟨hk.1.2,hk.2⟩⟩)⟩,⟨by(with_reducible repeat(first|apply R_alloc|apply R_drewN|apply R_drew));exact R_mono HO_10.out (fun _ hk=>⟨hk.2,⟨hk.1.1,hk.1.2⟩⟩)⟩,⟨kdA HO_7.out⟩,⟨by(with_reducible repeat(first|apply R_alloc|apply R_drewN|apply R_drew));exact R_mono HO_153002.out (fun _ hk=>⟨hk.2,⟨hk.1.1,hk.1.2⟩⟩)⟩,⟨by(with_reducible repeat(first|apply R_alloc|apply R_drewN|apply R_drew));exact R_mono HO_160002.out (fun _ hk=>⟨hk.2,⟨hk.1.1,hk.1.2⟩⟩)⟩,⟨bkA D.out⟩,⟨bkA G.out⟩,⟨bkA ab.out⟩,⟨hbA HB.out⟩⟩
     case round=>
      clear H'
      (try clear c1);(try clear c2);(try clear p2 p2);(try clear c3);(try clear c4);(try clear c5);(try clear c6);(try clear c7);(try clear cx);(try clear bm);(try clear c14b0);(try clear c14b1);(try clear bn);(try clear c16b0);(try clear c16b1);(try clear bo);(try clear c18b0);(try clear c18b1);(try clear g1);(try clear g2);(try clear g3);(try clear g4);(try clear g5);(try clear bp);(try clear c37b0);(try clear c37b1);(try clear dg);(try clear cy);(try clear c39b0);(try clear c39b1);(try clear cz);(try clear c40b0);(try clear c40b1);(try clear i6);(try clear i7);(try clear ba bb bc bd be bf);(try clear b5 b6 b7 ci cj ck);(try clear b8 b9 ca cl cm cn);(try clear cb cd ce co cp cq);(try clear cf cg ch cr ct cu);(try clear dk dl dm dn dp dq);(try clear br bs bt bx bz b0);(try clear bu bv bw b1 b2 b3)
      obtain⟨av,J,rfl,HA,es,HO_4,HO_10,HO_65,HO_153002,HO_160002,D,G,ab,HB⟩:=hrel
      cases gk with
      |zero=>exact absurd HA.out (by simp[gauss_Combine.l0])
      |succ k3=>
       have H:=HA.out;clear HA;simp only[gauss_Combine.l0]at H;by_cases c8:J<(U.length:Int)
       case neg=>
        rw[if_neg c8]at H
        have c46b0:decide (J<(U.length:Int))=false:=decide_eq_false c8;clear c8;obtain⟨rfl,rfl,rfl⟩:=zP3 H;go_wp2
        go_ret3
        exact⟨_,rfE,by(with_reducible repeat(first|apply R_alloc|apply R_drewN|apply R_drew));exact R_mono HO_4.out (fun _ hk=>trivial),hbA HB.out⟩
       rw[if_pos c8]at H
       have c46b0:decide (J<(U.length:Int))=true:=decide_eq_true c8;clear c8;by_cases d3:0<=J
       case neg=>rw[if_neg d3]at H;exact absurd H zd
       rw[if_pos d3]at H
       have c47b0:decide (0<=J)=true:=decide_eq_true d3;clear d3;by_cases d4:J<(U.length:Int)
       case neg=>rw[if_neg d4]at H;exact absurd H zd
       rw[if_pos d4]at H
       have c48b0:decide (J<(U.length:Int))=true:=decide_eq_true d4;clear d4;by_cases d5:J<(ar.length:Int)
       case neg=>rw[if_neg d5]at H;exact absurd H zd
       rw[if_pos d5]at H
       have c49b0:decide (J<(ar.length:Int))=true:=decide_eq_true d5;clear d5;by_cases d6:0<=(rd U J)
       case neg=>rw[if_neg d6]at H;exact absurd H zd
       rw[if_pos d6]at H
       have c50b0:decide (0<=(rd U J))=true:=decide_eq_true d6;clear d6;by_cases d7:(rd U J)<(av.length:Int)
       case neg=>rw[if_neg d7]at H;exact absurd H zd
       rw[if_pos d7]at H
       have c51b0:decide ((rd U J)<(av.length:Int))=true:=decide_eq_true d7;clear d7;obtain⟨d0,bh⟩: ∃y_:List Int,y_=(av.set ((rd U J):Int).toNat (rd ar J)):=⟨_,rfl⟩
       replace H:(gauss_Combine.l0 k3 d0 ar U (U.length:Int) (wrap64 (J+1)))=some (r1,r2,r3):=zH bh H
       have ek:=aK bh;clear bh;have H':=aK H;clear H;have du:0<=(J:Int):=of_decide_eq_true asE;have dw:J<(U.length:Int):=of_decide_eq_true asE;obtain⟨g0,ev,gq⟩:=Kd.at_int (R_reads' HO_65.out).2.2 J du dw
       cases ev
       replace du:=eq_true du;replace dw:=eq_true dw;obtain⟨ix,di,e0⟩:=R_slice HO_10.out;subst e0;have dv:0<=(J:Int):=of_decide_eq_true asE;have dx:J<(ar.length:Int):=of_decide_eq_true asE;obtain⟨cv,ew,gr⟩:=Kd.at_int (R_reads' HO_10.out).2.2 J dv dx
       cases ew
       replace dv:=eq_true dv;replace dx:=eq_true dx;have p52:0<=((rd U J):Int):=of_decide_eq_true asE;have el:((rd U J):Int)<((av.length:Int):Int):=of_decide_eq_true asE;obtain⟨a0,a5,ea,eb,e6,i2,d8⟩:=Kd.R_form HO_4.out za
       (first|cases ea|(injection ea with ea_ en_ ec_;(first|subst ea_|(injection ea_ with ea_;subst ea_));subst ec_;clear en_))
       have er:=aK eb;have i1:=aK d8;clear eb e6 d8;obtain⟨gu,gt⟩:=Kd.R_celln 0 HO_4.out ((rd U J):Int) p52 el;replace p52:=eq_true p52;replace el:=eq_true el;have de:=Kd.R_putg HO_4.out ((rd U J):Int) (rd ar J)
       go_wp2_with (first|((with_reducible refine gate_store (t:=5) (p:=78) rfl ?_);refine store_event (t:=5) (p:=78) (v:=?vo_w55) (w1:=(wr.setCell ⟨a0,((rd U J):Int).toNat,none⟩ (.int .u8 (rd ar J)))) ?hg ?ho ?hn ?hr ?_;(case ho=>rfl);(case hg=>rfl);(case hn=>rfl);(case hr=>first|(go_simp;done)|(go_simp;rfl));intro em hw;have hg:wr.grownBy em (some a0):=(by rw[hw];exact de.2);have hp_:Kd.R (Kd.int .u8) 5 em w.heap.size (fun k_=>some k_≠(.slice (some cv) ar.length di:Value).ownBlock/\some k_≠(.slice ak Y.length ah:Value).ownBlock/\some k_≠(.slice al ac.length ai:Value).ownBlock) (.slice (some ⟨a0,0,none⟩) av.length a5) d0:=(by rw[hw,ek.out];exact de.1);clear de;replace HO_10:=aK (Kd.R_after (v:=(.slice (some ⟨a0,0,none⟩) av.length a5)) (v1:=(.slice (some ⟨a0,0,none⟩) av.length a5)) (ok:=(fun k_=>some k_≠(.slice ak Y.length ah:Value).ownBlock/\some k_≠(.slice al ac.length ai:Value).ownBlock)) (by(with_reducible repeat(first|apply R_alloc|apply R_drewN|apply R_drew));exact R_mono HO_10.out (fun _ hk=>⟨⟨hk.2.1,hk.2.2⟩,hk.1⟩)) hg (.inl rfl));replace HO_65:=aK (Kd.R_over' (v:=(.slice (some ⟨a0,0,none⟩) av.length a5)) (kdA HO_65.out) (Kd.R_typed HO_4.out) zb hg);replace HO_153002:=aK (Kd.R_after (v:=(.slice (some ⟨a0,0,none⟩) av.length a5)) (v1:=(.slice (some ⟨a0,0,none⟩) av.length a5)) (ok:=(fun k_=>some k_≠(.slice (some cv) ar.length di:Value).ownBlock/\some k_≠(.slice al ac.length ai:Value).ownBlock)) (by(with_reducible repeat(first|apply R_alloc|apply R_drewN|apply R_drew));exact R_mono HO_153002.out (fun _ hk=>⟨⟨hk.2.1,hk.2.2⟩,hk.1⟩)) hg (.inl rfl));replace HO_160002:=aK (Kd.R_after (v:=(.slice (some ⟨a0,0,none⟩) av.length a5)) (v1:=(.slice (some ⟨a0,0,none⟩) av.length a5)) (ok:=(fun k_=>some k_≠(.slice (some cv) ar.length di:Value).ownBlock/\some k_≠(.slice ak Y.length ah:Value).ownBlock)) (by(with_reducible repeat(first|apply R_alloc|apply R_drewN|apply R_drew));exact R_mono HO_160002.out (fun _ hk=>⟨⟨hk.2.1,hk.2.2⟩,hk.1⟩)) hg (.inl rfl));replace D:=bkG D hg (R_ne HO_4.out D.out zb);replace G:=bkG G hg (R_ne HO_4.out G.out zb);replace ab:=bkG ab hg (R_ne HO_4.out ab.out zb);replace HO_4:=aK (hp_);replace HB:=aK ((by rw[hw];exact below_set (HB.out) er.out:Below w.heap.size w em));clear hg hw hp_))
       go_roundg k3
       case measure=>have:=d2.out;have:=d9.out;have:=es.out;omega
       case rel=>exact⟨(d0),(wrap64 (J+1)),rsE,H',⟨by have:=d2.out;have:=d9.out;have:=es.out;omega⟩,⟨kdA HO_4.out⟩,⟨by(with_reducible repeat(first|apply R_alloc|apply R_drewN|apply R_drew));exact R_mono HO_10.out (fun _ hk=>⟨hk.2,⟨hk.1.1,hk.1.2⟩⟩)⟩,⟨kdA HO_65.out⟩,⟨by(with_reducible repeat(first|apply R_alloc|apply R_drewN|apply R_drew));exact R_mono HO_153002.out (fun _ hk=>⟨hk.2,⟨hk.1.1,hk.1.2⟩⟩)⟩,⟨by(with_reducible repeat(first|apply R_alloc|apply R_drewN|apply R_drew));exact R_mono HO_160002.out (fun _ hk=>⟨hk.2,⟨hk.1.1,hk.1.2⟩⟩)⟩,⟨bkA D.out⟩,⟨bkA G.out⟩,⟨bkA ab.out⟩,⟨hbA HB.out⟩⟩
theorem C_seg{w:World}{A:Option Addr}{l:List Int}{f f2 cols:Nat}(h:Kd.C (Kd.int .u8) w A l.length l)(h2:f2=f+cols)(hfit:f2<=l.length):Kd.C (Kd.int .u8) w (if f2=f then A else A.map (·.add f)) ((l.drop f).take cols).length ((l.drop f).take cols):=by
 have hr:=Kd.reads_of_C (enc:=Value.int .u8) (d:=(0:Int)) (h1:=fun _=>rfl) h;have hl:((l.drop f).take cols).length=cols:=by rw[List.length_take,List.length_drop];omega
 refine C_of_reads (enc:=Value.int .u8) (d:=(0:Int)) (h1:=fun _=>rfl) ⟨rfl,by rw[hl];have:=hr.2.1;omega,fun hn=>?_⟩;rw[hl]at hn⊢
 obtain⟨ad,e,hc⟩:=hr.2.2 za;rw[if_neg za,e];refine⟨ad.add f,rfl,fun j hj=>?_⟩;rw[Addr.add_add,hc (f+j) za]
 congr 2
 rw[List.getD_eq_getElem?_getD,List.getD_eq_getElem?_getD,List.getElem?_take_of_lt hj,List.getElem?_drop]
def rowSeg(b:Int)(l:List Int)(i:Int):List Int:=(l.drop (i.toNat*b.toNat)).take b.toNat
def shape_rows_row.f(a b:Int)(l:List Int)(i:Int):Option (List Int):=if 0<=i/\i<a/\a<=64/\0<=b/\b<=64/\l.length=a.toNat*b.toNat then some (rowSeg b l i)else none
def subset_Has.f(a0:Int)(a1:Int):Option (Bool):=if a1>=0 then(if a1<64 then(if 0<=a1 then(some ((Go.bits .and .u64 (shr .u64 a0 a1) 1)==1))else(none))else(some false))else(some false)
theorem subset_Has.calls(a0:Int)(a1:Int)(r:Bool)(w:World)(h:subset_Has.f a0 a1=some r):
 Calls Tryd.prog 31 #[.int .u64 a0,.int .i64 a1] w fun e w'=>e= .returned (.bool r)/\Drawn0 w w':=by
 have H:(if a1>=0 then(if a1<64 then(if 0<=a1 then(some ((Go.bits .and .u64 (shr .u64 a0 a1) 1)==1))else(none))else(some false))else(some false))=some r:=h;clear h;by_cases c3:a1>=0
 ·rw[if_pos c3]at H
  have c3b0:decide (0<=a1)=true:=decide_eq_true c3;clear c3;by_cases c4:a1<64
  ·rw[if_pos c4]at H
   have c4b0:decide (a1<64)=true:=decide_eq_true c4;clear c4;by_cases c5:0<=a1
   ·rw[if_pos c5]at H
    have c5b0:=eq_true c5;have c5b1:decide (0<=a1)=true:=decide_eq_true c5;clear c5;obtain⟨G,D⟩: ∃j_:Int,(shr .u64 a0 a1)=j_:=⟨_,rfl⟩
    replace H:(some ((Go.bits .and .u64 (G) 1)==1))=some r:=by first|(rw[D]at H;exact H)|(simp only[D]at H⊢;exact H)
    have hji6_:(a0 / 2^min a1.toNat 64)=G:=D;have hji6z:a1<=64->(a0 / 2^a1.toNat)=G:=shr_small D;obtain rfl:=Option.some.inj H
    go_enter Tryd.func31,Tryd.ntmps31
    go_wp2
    go_ret
    exact⟨by first|rfl|(simp;done)|(simp only[<-D]<;>(first|rfl|simp))|(simp[*];done),by repeat(first|exact Drawn0.refl _|apply Drawn0.step)⟩
   ·rw[if_neg c5]at H
    exact absurd H zd
  ·rw[if_neg c4]at H
   have c4b0:decide (a1<64)=false:=decide_eq_false c4;clear c4;obtain rfl:=Option.some.inj H
   go_enter Tryd.func31,Tryd.ntmps31
   go_wp2
   go_ret
   exact zD
 ·rw[if_neg c3]at H
  have c3b0:decide (0<=a1)=false:=decide_eq_false c3;clear c3;obtain rfl:=Option.some.inj H
  go_enter Tryd.func31,Tryd.ntmps31
  go_wp2
  go_ret
  exact zD
def matroid_pick.f(k:Nat)(G:Int)(I:Int)(J:List Int)(a1:Int):Option (Int×Int×List Int×Int):=(matrix_Right.f G I J).bind fun L=>(if L=true then((subset_List.f k a1).bind fun O=>((matrix_Pick.f G I J O).bind fun D=>(some (D.1,D.2.1,D.2.2.1,D.2.2.2))))else(some (0,0,([]:List Int),3)))
theorem matroid_pick.mono: ∀a0 a1 a2 a3 k,LeO (matroid_pick.f k a0 a1 a2 a3) (matroid_pick.f (k+1) a0 a1 a2 a3):=by
 intro a0 a1 a2 a3 k;unfold matroid_pick.f
 with_reducible repeat' first|exact subset_List.mono _ _|exact LeO.refl _|exact LeO.none _|refine LeO.ite ?_ ?_|refine LeO.bind ?_ (fun _=>?_)
def matroid_pick.T3:Bool×List (List Nat×List Nat):=(true,[([],[]),([],[]),([1],[1]),([0,2,2],[0,2]),([3],[3]),([3],[3]),([4,3,0,1,2,3,4,5],[4]),([5,6,0,1,2,3,4,5,6],[5])])
def matroid_pick.B3:List Nat:= [0,0,2,7,15,15,63,127]
theorem matroid_pick.tab3:rtab .any (opsOf Tryd.f102 3)=matroid_pick.T3:=by kernel_rfl
theorem matroid_pick.bits3:waitsOk matroid_pick.T3.2 matroid_pick.B3=true:=by kernel_rfl
theorem matroid_pick.calls(k:Nat)(U:Int)(X:Int)(Y:Option Addr)(Z:Nat)(O:List Int)(a1:Int)(r1:Int)(r2:Int)(r3:List Int)(r4:Int)(w:World)(am:Kd.C (Kd.int .u8) w Y O.length O)(ak:O.length<=Z)(h:matroid_pick.f k U X O a1=some (r1,r2,r3,r4))(hT:TabAt 0 Lib.deBruijn64tab w):
 Calls Tryd.prog 102 #[.agg #[.int .i64 U,.int .i64 X,.slice Y O.length Z],.int .u64 a1] w fun e w'=> ∃v2_:Value,e= .returned (.tuple #[.agg #[.int .i64 r1,.int .i64 r2,v2_],.int .i64 r4])/\Kd.R (Kd.int .u8) 5 w' w.heap.size (fun _=>True) v2_ r3/\Below w.heap.size w w':=by
 have HT:=aK hT;clear hT;have b5:=Tryd.underlying24;have ah:=aK am;have ag:=aK ak;clear am ak;have HB:=aK (Below.refl w.heap.size w);have H:((matrix_Right.f U X O).bind fun an=>(if an=true then((subset_List.f k a1).bind fun ae=>((matrix_Pick.f U X O ae).bind fun ab=>(some (ab.1,ab.2.1,ab.2.2.1,ab.2.2.2))))else(some (0,0,([]:List Int),3))))=some (r1,r2,r3,r4):=h;clear h;obtain⟨an,A3,H⟩:=bindO H
 (try dsimp only at H)
 by_cases c4:an=true
 ·subst c4;rw[if_pos rfl]at H
  obtain⟨ae,A5,H⟩:=bindO H
  (try dsimp only at H)
  obtain⟨⟨af,ai,ao,br⟩,A6,H⟩:=bindO H
  (try dsimp only at H)
  obtain⟨rfl,rfl,rfl,rfl⟩:=zP4 H
  go_enter Tryd.func102,Tryd.ntmps102
  try go_wp2_with (first|((with_reducible refine gD 2 rfl ?_);refine bE 2 #[.int .i64 U,.int .i64 X,.slice Y O.length Z] 24 ?_;intro ac hg w7 hbox hb;have D:=aK (hbox);have ax:=hbS HB hg;have av:=hbS HB hg;replace HB:=hbB HB hb;clear hb hbox hg)|((with_reducible refine gD 4 rfl ?_);refine bE 4 #[.int .i64 0,.int .i64 0,.slice none 0 0] 24 ?_;intro J hg w8 hbox hb;have I:=aK (hbox);have ay:=hbS HB hg;have aw:=hbS HB hg;replace HB:=hbB HB hb;have G:=neL D hg;have L:=neG D hg;replace D:=bkB D hb;clear hb hbox hg;have b0:=G.out;have b1:=L.out;obtain⟨a3,a4,a5,bc,bd,be⟩:=cell3 D)|((with_reducible refine gC 56 rfl ?_);refine cG (some 7) Tryd.func56 #[.agg #[.int .i64 U,.int .i64 X,.slice Y O.length Z]] ?_;(with_reducible refine(matrix_Right.calls U X _ _ O true _ ?side1 ?side2 A3.out).mono ?_);(case side1=>exact kcB ah HB);(case side2=>exact ag.out);rintro e bz ⟨rfl,hb⟩;refine⟨_,rfl,?_⟩;replace D:=bkB D hb;replace I:=bkB I hb;replace HB:=hbB HB hb;(try clear hb)))
  replace D:=aK (blk_drew D.out);replace I:=aK (blk_drew I.out);replace HB:=aK (below_drew1 HB.out);refine start_ (n:=8) (S:=fun w'=>w'.cell? ⟨ac,0,none⟩=some (.int .i64 U)/\w'.cell? ⟨ac,1,none⟩=some (.int .i64 X)/\w'.cell? ⟨ac,2,none⟩=some (.slice Y O.length Z)) (ds:= []) (.replicate 8 false) zc rfl rfl (z3c D) (fun hHeld=>?_);refine with_tabW matroid_pick.tab3 matroid_pick.bits3 (fun HT_ HW_=>?_);generalize bz.drew=b8 at D I HB hHeld⊢;refine pu 1 (some 11) (mB 8 2) HT_ ?_;refine tk3 0 (some 10) (mB 8 3) HT_ HW_ hHeld ?_;refine zoh 2 (some 12) (mB 8 7) HT_ fun K hK=>?_;refine goes_ Tryd.func35 zc rfl #[.int .u64 a1] ze rfl rfl (by(try simp only[List.map_toArray,List.map_cons,List.map_nil]);first|done|rfl|(simp only[List.length_drop,List.length_take];rfl)) ?_;with_reducible refine(subset_List.calls k a1 ae _ A5.out (tab_below HT.out zj)).mono ?_
  rintro e b9 ⟨b6,rfl,al,hb⟩;refine⟨_,rfl,?_⟩;have aa:=aK (R_lower al (below_size (hbA HB.out)));replace D:=bkB D hb;replace I:=bkB I hb;replace HB:=hbB HB hb
  (try clear hb)
  (try clear bs)
  (try clear hk)
  (try clear hi)
  (try clear al)
  obtain⟨a0,a2,ar⟩:=R_slice aa.out
  (first|subst ar|(injection ar with f1_ f2_ f3_;have f4_:=f1_.symm;have f5_:=f3_.symm;clear f1_ f2_ f3_;subst f4_;subst f5_))
  refine hK.out _ _ (z3c D) (fun hHeld=>?_);clear hK K;refine znm (some 12) ?_;refine zoh 3 (some 13) (mB 8 15) HT_ fun K hK=>?_;refine goes_ Tryd.func34 zc rfl #[.agg #[.int .i64 U,.int .i64 X,.slice Y O.length Z],.slice a0 ae.length a2] ze rfl rfl (by(try simp only[List.map_toArray,List.map_cons,List.map_nil]);first|done|rfl|(simp only[List.length_drop,List.length_take];rfl)) ?_;with_reducible refine(matrix_Pick.calls U X _ _ O _ _ ae af ai ao br _ ?side1 ?side2 ?side3 ?side4 A6.out).mono ?_
  (case side1=>exact kcB ah HB)
  (case side2=>exact ag.out)
  (case side3=>exact kcA (R_reads' aa.out).2.2)
  (case side4=>exact(R_reads' aa.out).2.1)
  rintro e az ⟨b7,rfl,al,hb⟩;refine⟨_,rfl,?_⟩;replace aa:=kdB aa hb;have aj:=aK (R_lower al (below_size (hbA HB.out)));replace D:=bkB D hb;replace I:=bkB I hb;replace HB:=hbB HB hb
  (try clear hb)
  (try clear bs)
  (try clear hk)
  (try clear hi)
  (try clear al)
  obtain⟨ap,aq,au⟩:=R_slice aj.out
  (first|subst au|(injection au with f1_ f2_ f3_;have f4_:=f1_.symm;have f5_:=f3_.symm;clear f1_ f2_ f3_;subst f4_;subst f5_))
  refine hK.out _ _ (z3c D) (fun hHeld=>?_);clear hK K;refine znm (some 13) ?_;refine pu 4 (some 14) (mB 8 31) HT_ ?_;refine pu 5 (some 15) (mB 8 63) HT_ ?_;refine zoh 6 (none) (mB 8 127) HT_ fun K hK=>?_;have b2:az.cell? ⟨J,0,none⟩=some (.int .i64 0):=(blk_cell I.out 0).trans rfl;have bt:=blk_frozen I.out 0;have bo:=G.out;have bl:=L.out;have b3:az.cell? ⟨J,1,none⟩=some (.int .i64 0):=(blk_cell I.out 1).trans rfl;have bu:=blk_frozen I.out 1;have bp:=G.out;have bm:=L.out;have b4:az.cell? ⟨J,2,none⟩=some (.slice none 0 0):=(blk_cell I.out 2).trans rfl;have bv:=blk_frozen I.out 2;have bq:=G.out;have bn:=L.out;refine zsk ?_;refine hK.out _ _ ⟨((cell_far (p:=⟨J,_,none⟩) G.out _).trans (((cell_far (p:=⟨J,_,none⟩) G.out _).trans (((cell_far (p:=⟨J,_,none⟩) G.out _).trans (hHeld.1)))))),((cell_far (p:=⟨J,_,none⟩) G.out _).trans (((cell_far (p:=⟨J,_,none⟩) G.out _).trans (((cell_far (p:=⟨J,_,none⟩) G.out _).trans (hHeld.2.1)))))),((cell_far (p:=⟨J,_,none⟩) G.out _).trans (((cell_far (p:=⟨J,_,none⟩) G.out _).trans (((cell_far (p:=⟨J,_,none⟩) G.out _).trans (hHeld.2.2))))))⟩ (fun hHeld=>?_);clear hK K;refine pu 7 (some 5) (mB 8 255) HT_ ?_;refine done_ (done_of HT_.out zc) ?_
  try go_wp2
  refine bodyPost_ret (results_ct rfl _ _ J 24 #[.int .i64 af,.int .i64 ai,.slice ap ao.length aq] (0,0) _ rfl (by refine bkR ?_;refine blk_put (cs:= #[.int .i64 af,.int .i64 ai,.slice none 0 0]) ?_ 2 _ rfl;refine bkR ?_;refine blk_put (cs:= #[.int .i64 af,.int .i64 0,.slice none 0 0]) ?_ 1 _ rfl;refine bkR ?_;refine blk_put (cs:= #[.int .i64 0,.int .i64 0,.slice none 0 0]) ?_ 0 _ rfl;refine bkR ?_;exact I.out) Tryd.underlying24 rfl zc) rfl ?_;exact⟨_,rfE,by(with_reducible repeat(first|apply R_alloc|apply R_drewN|apply R_drew));exact R_mono (R_far (p:=⟨J,2,none⟩) (R_far (p:=⟨J,1,none⟩) (R_far (p:=⟨J,0,none⟩) (R_types aj.out I.out zb) (fun _ hk=>hk.2) (.int .i64 af)) (fun _ hk=>hk.2) (.int .i64 ai)) (fun _ hk=>hk.2) (.slice ap ao.length aq)) (fun _ hk=>trivial),hbA HB.out⟩
 ·replace c4:=Bool.eq_false_iff.mpr c4;subst c4;rw[if_neg nofT]at H
  obtain⟨rfl,rfl,rfl,rfl⟩:=zP4 H
  go_enter Tryd.func102,Tryd.ntmps102
  go_wp2_with (first|((with_reducible refine gD 2 rfl ?_);refine bE 2 #[.int .i64 U,.int .i64 X,.slice Y O.length Z] 24 ?_;intro ac hg ca hbox hb;have D:=aK (hbox);have ax:=hbS HB hg;have av:=hbS HB hg;replace HB:=hbB HB hb;clear hb hbox hg)|((with_reducible refine gD 4 rfl ?_);refine bE 4 #[.int .i64 0,.int .i64 0,.slice none 0 0] 24 ?_;intro J hg cb hbox hb;have I:=aK (hbox);have ay:=hbS HB hg;have aw:=hbS HB hg;replace HB:=hbB HB hb;have G:=neL D hg;have L:=neG D hg;replace D:=bkB D hb;clear hb hbox hg;have bw:=G.out;have bx:=L.out;obtain⟨a6,a7,a8,bf,bg,bh⟩:=cell3 D)|((with_reducible refine gC 56 rfl ?_);refine cG (some 7) Tryd.func56 #[.agg #[.int .i64 U,.int .i64 X,.slice Y O.length Z]] ?_;(with_reducible refine(matrix_Right.calls U X _ _ O false _ ?side1 ?side2 A3.out).mono ?_);(case side1=>exact kcB ah HB);(case side2=>exact ag.out);rintro e cd ⟨rfl,hb⟩;refine⟨_,rfl,?_⟩;replace D:=bkB D hb;replace I:=bkB I hb;replace HB:=hbB HB hb;(try clear hb);obtain⟨a9,ba,bb,bi,bj,bk⟩:=cell3 I))
  refine bodyPost_ret (results_ct rfl _ _ J 24 #[.int .i64 0,.int .i64 0,.slice none 0 0] (0,0) _ rfl zat Tryd.underlying24 rfl zc) rfl ?_;exact⟨_,rfE,nilE,hbA HB.out⟩
def gauss_Rank.f(G:Int)(I:Int)(J:List Int):Option (Int×Int):=(gauss_Reduce.f G I J).bind fun D=>(some ((D.2.2.2.1.length:Int),D.2.2.2.2))
theorem gauss_Rank.calls(I:Int)(J:Int)(L:Option Addr)(O:Nat)(G:List Int)(r1:Int)(r2:Int)(w:World)(ae:Kd.C (Kd.int .u8) w L G.length G)(ac:G.length<=O)(h:gauss_Rank.f I J G=some (r1,r2)):
 Calls Tryd.prog 103 #[.agg #[.int .i64 I,.int .i64 J,.slice L G.length O]] w fun e w'=>e= .returned (.tuple #[.int .i64 r1,.int .i64 r2])/\Below w.heap.size w w':=by
 have bf:=Tryd.underlying24;have ah:=aK ae;have ag:=aK ac;clear ae ac;have HB:=aK (Below.refl w.heap.size w);have H:((gauss_Reduce.f I J G).bind fun aa=>(some ((aa.2.2.2.1.length:Int),aa.2.2.2.2)))=some (r1,r2):=h;clear h;obtain⟨⟨am,an,ao,ap,aq⟩,A2,H⟩:=bindO H
 (try dsimp only at H)
 obtain⟨rfl,rfl⟩:=zP2 H
 go_enter Tryd.func103,Tryd.ntmps103
 go_wp2_with (first|((with_reducible refine gD 1 rfl ?_);refine bE 1 #[.int .i64 I,.int .i64 J,.slice L G.length O] 24 ?_;intro ab hg w3 hbox hb;have D:=aK (hbox);have a8:=hbS HB hg;have a6:=hbS HB hg;replace HB:=hbB HB hb;clear hb hbox hg;obtain⟨au,av,aw,a0,a1,a2⟩:=cell3 D)|((with_reducible refine gC 90 rfl ?_);refine cG (some 9) Tryd.func90 #[.agg #[.int .i64 I,.int .i64 J,.slice L G.length O]] ?_;(with_reducible refine(gauss_Reduce.calls I J _ _ G am an ao ap aq _ ?side1 ?side2 A2.out).mono ?_);(case side1=>exact kcB ah HB);(case side2=>exact ag.out);rintro e w5 ⟨bg,ar,rfl,ak,al,hb⟩;refine⟨_,rfl,?_⟩;have U:=aK (Kd.V_lower (V_mono (ok':=fun k_=>some k_≠(ar:Value).ownBlock/\k_≠ab) ak (fun k_ hk_=>⟨hk_.2,(Kd.freshB (g:=ab) (o:= .cells #[.int .i64 I,.int .i64 J,.slice L G.length O] 24 (0,0)) (bkA D.out) k_ hk_.1)⟩)) (below_size (hbA HB.out)));have X:=aK (R_lower (R_mono (ok':=fun k_=>True) al (fun _ hk_=>trivial)) (below_size (hbA HB.out)));replace D:=bkB D hb;replace HB:=hbB HB hb;(try clear hb);(try clear ak);(try clear al))|((with_reducible refine gD 4 rfl ?_);refine bE 4 #[.int .i64 0,.int .i64 0,.slice none 0 0] 24 ?_;intro ai hg w6 hbox hb;replace U:=aK (Kd.V_below (Kd.V_elderB (by(with_reducible repeat(first|apply Kd.V_alloc|apply Kd.V_drewN|apply Kd.V_drew));exact U.out) ai (Nat.le_of_eq hg.symm)) hb);replace X:=kdB X hb;have af:=aK (hbox);have a9:=hbS HB hg;have a7:=hbS HB hg;replace HB:=hbB HB hb;have Y:=neL D hg;have Z:=neG D hg;replace D:=bkB D hb;clear hb hbox hg;have bd:=Z.out;have be:=Y.out;obtain⟨ax,ay,az,a3,a4,a5⟩:=cell3 af;obtain⟨bh,bi,ba⟩:=V_slice U.out;subst ba;obtain⟨bb,bc,aj⟩:=R_slice X.out;subst aj))
 go_ret2
 exact⟨rfE,hbA HB.out⟩
def matroid_Rank.f(k:Nat)(I:Int)(J:Int)(L:List Int)(a1:Int):Option (Int×Int):=(matroid_pick.f k I J L a1).bind fun D=>(if D.2.2.2=0 then((gauss_Rank.f D.1 D.2.1 D.2.2.1).bind fun G=>(some (G.1,G.2)))else(some (0,D.2.2.2)))
theorem matroid_Rank.mono: ∀a0 a1 a2 a3 k,LeO (matroid_Rank.f k a0 a1 a2 a3) (matroid_Rank.f (k+1) a0 a1 a2 a3):=by
 intro a0 a1 a2 a3 k;unfold matroid_Rank.f
 with_reducible repeat' first|exact matroid_pick.mono _ _ _ _ _|exact LeO.refl _|exact LeO.none _|refine LeO.ite ?_ ?_|refine LeO.bind ?_ (fun _=>?_)
theorem matroid_Rank.calls(k:Nat)(L:Int)(O:Int)(ab:Option Addr)(ae:Nat)(J:List Int)(a1:Int)(r1:Int)(r2:Int)(w:World)(ap:Kd.C (Kd.int .u8) w ab J.length J)(an:J.length<=ae)(h:matroid_Rank.f k L O J a1=some (r1,r2))(hT:TabAt 0 Lib.deBruijn64tab w):
 Calls Tryd.prog 89 #[.agg #[.int .i64 L,.int .i64 O,.slice ab J.length ae],.int .u64 a1] w fun e w'=>e= .returned (.tuple #[.int .i64 r1,.int .i64 r2])/\Below w.heap.size w w':=by
 have HT:=aK hT;clear hT;have bw:=Tryd.underlying24;have aj:=aK ap;have ai:=aK an;clear ap an;have HB:=aK (Below.refl w.heap.size w);have H:((matroid_pick.f k L O J a1).bind fun ac=>(if ac.2.2.2=0 then((gauss_Rank.f ac.1 ac.2.1 ac.2.2.1).bind fun ak=>(some (ak.1,ak.2)))else(some (0,ac.2.2.2))))=some (r1,r2):=h;clear h;obtain⟨⟨Y,Z,aa,af⟩,A3,H⟩:=bindO H
 (try dsimp only at H)
 by_cases c4:af=0
 ·rw[if_pos c4]at H
  have c4b0:(af==0)=true:=beq_iff_eq.mpr c4;have c4b1:(af !=0)=false:=bne_eq_false_iff_eq.mpr c4;clear c4;obtain⟨⟨bh,bi⟩,A5,H⟩:=bindO H
  (try dsimp only at H)
  obtain⟨rfl,rfl⟩:=zP2 H
  go_enter Tryd.func89,Tryd.ntmps89
  go_wp2_with (first|((with_reducible refine gD 2 rfl ?_);refine bE 2 #[.int .i64 L,.int .i64 O,.slice ab J.length ae] 24 ?_;intro al hg w6 hbox hb;have D:=aK (hbox);have au:=hbS HB hg;have aq:=hbS HB hg;replace HB:=hbB HB hb;clear hb hbox hg;obtain⟨bk,bl,bm,bn,bo,bp⟩:=cell3 D)|((with_reducible refine gC 102 rfl ?_);refine cG (some 11) Tryd.func102 #[.agg #[.int .i64 L,.int .i64 O,.slice ab J.length ae],.int .u64 a1] ?_;(with_reducible refine(matroid_pick.calls k L O _ _ J a1 Y Z aa af _ ?side1 ?side2 A3.out (tab_below HT.out zj)).mono ?_);(case side1=>exact kcB aj HB);(case side2=>exact ai.out);rintro e w8 ⟨bj,rfl,ao,hb⟩;refine⟨_,rfl,?_⟩;have I:=aK (R_lower ao (below_size (hbA HB.out)));replace D:=bkB D hb;replace HB:=hbB HB hb;(try clear hb);(try clear ao))|((with_reducible refine gD 6 rfl ?_);refine bE 6 #[.int .i64 0,.int .i64 0,.slice none 0 0] 24 ?_;intro am hg w9 hbox hb;replace I:=kdB I hb;have U:=aK (hbox);have av:=hbS HB hg;have ar:=hbS HB hg;replace HB:=hbB HB hb;have G:=neL D hg;have X:=neG D hg;replace D:=bkB D hb;clear hb hbox hg;have bq:=X.out;have bs:=G.out;obtain⟨ay,az,a0,a8,a9,ba⟩:=cell3 U;obtain⟨ah,ag,aw⟩:=R_slice I.out;subst aw)|((with_reducible refine gC 103 rfl ?_);refine cG (some 18) Tryd.func103 #[.agg #[.int .i64 Y,.int .i64 Z,.slice ah aa.length ag]] ?_;(with_reducible refine(gauss_Rank.calls Y Z _ _ aa bh bi _ ?side1 ?side2 A5.out).mono ?_);(case side1=>refine(R_reads' (e:=5) (base:=w.heap.size) (ok:=fun k_=>True) (n:=aa.length) (c:=ag) ?_).2.2;exact(by(with_reducible repeat(first|apply R_alloc|apply R_drewN|apply R_drew));exact(zF I.out U.out  (.int .i64 Y)  (.int .i64 Z)  (.slice ah aa.length ag))));(case side2=>exact(R_reads' I.out).2.1);rintro e bx ⟨rfl,hb⟩;refine⟨_,rfl,?_⟩;replace I:=aK (R_below (by(with_reducible repeat(first|apply R_alloc|apply R_drewN|apply R_drew));exact(zF I.out U.out  (.int .i64 Y)  (.int .i64 Z)  (.slice ah aa.length ag))) hb);replace D:=aK (blk_below (g:=al) (o:= .cells #[.int .i64 L,.int .i64 O,.slice ab J.length ae] 24 (0,0)) zz hb);replace U:=aK (blk_below (g:=am) (o:= .cells #[.int .i64 Y,.int .i64 Z,.slice ah aa.length ag] 24 (0,0)) (by refine bkR ?_;refine blk_put (cs:= #[.int .i64 Y,.int .i64 Z,.slice none 0 0]) ?_ 2 _ rfl;refine bkR ?_;refine blk_put (cs:= #[.int .i64 Y,.int .i64 0,.slice none 0 0]) ?_ 1 _ rfl;refine bkR ?_;refine blk_put (cs:= #[.int .i64 0,.int .i64 0,.slice none 0 0]) ?_ 0 _ rfl;refine bkR ?_;exact U.out) hb);replace HB:=hbB HB hb;(try clear hb)))
  go_ret2
  exact⟨rfE,hbA HB.out⟩
 ·rw[if_neg c4]at H
  have c4b0:(af==0)=false:=beq_eq_false_iff_ne.mpr c4;have c4b1:(af !=0)=true:=bne_iff_ne.mpr c4;obtain⟨rfl,rfl⟩:=zP2 H
  go_enter Tryd.func89,Tryd.ntmps89
  go_wp2_with (first|((with_reducible refine gD 2 rfl ?_);refine bE 2 #[.int .i64 L,.int .i64 O,.slice ab J.length ae] 24 ?_;intro al hg bz hbox hb;have D:=aK (hbox);have au:=hbS HB hg;have aq:=hbS HB hg;replace HB:=hbB HB hb;clear hb hbox hg;obtain⟨a2,a3,a4,bb,bc,bd⟩:=cell3 D)|((with_reducible refine gC 102 rfl ?_);refine cG (some 11) Tryd.func102 #[.agg #[.int .i64 L,.int .i64 O,.slice ab J.length ae],.int .u64 a1] ?_;(with_reducible refine(matroid_pick.calls k L O _ _ J a1 Y Z aa af _ ?side1 ?side2 A3.out (tab_below HT.out zj)).mono ?_);(case side1=>exact kcB aj HB);(case side2=>exact ai.out);rintro e b0 ⟨bj,rfl,ao,hb⟩;refine⟨_,rfl,?_⟩;have I:=aK (R_lower ao (below_size (hbA HB.out)));replace D:=bkB D hb;replace HB:=hbB HB hb;(try clear hb);(try clear ao))|((with_reducible refine gD 6 rfl ?_);refine bE 6 #[.int .i64 0,.int .i64 0,.slice none 0 0] 24 ?_;intro am hg b1 hbox hb;replace I:=kdB I hb;have U:=aK (hbox);have av:=hbS HB hg;have ar:=hbS HB hg;replace HB:=hbB HB hb;have G:=neL D hg;have X:=neG D hg;replace D:=bkB D hb;clear hb hbox hg;have br:=X.out;have bt:=G.out;obtain⟨a5,a6,a7,be,bf,bg⟩:=cell3 U;obtain⟨bu,bv,ax⟩:=R_slice I.out;subst ax))
  go_ret2
  exact⟨rfE,hbA HB.out⟩
def matroid_Span.l0:Nat->Int->Int->Int->Int->Int->Int->Int->List Int->Option (Int×Int)
 |0,_,_,_,_,_,_,_,_=>none
 |k+1,x1,x6,x8,L,J,D,G,I=>if J<L then((subset_Has.f x1 J).bind fun U=>(if U=true then(matroid_Span.l0 k x1 x6 x8 L (wrap64 (J+1)) D G I)else(if 0<=J then((matroid_Rank.f k D G I (Go.bits .or .u64 x1 (shl .u64 1 J))).bind fun O=>(if O.1=x6 then(matroid_Span.l0 k x1 x6 (Go.bits .or .u64 x8 (shl .u64 1 J)) L (wrap64 (J+1)) D G I)else(matroid_Span.l0 k x1 x6 x8 L (wrap64 (J+1)) D G I)))else(none))))else(some (x8,0))
def matroid_Span.f(k:Nat)(G:Int)(I:Int)(J:List Int)(a1:Int):Option (Int×Int):=(matroid_Rank.f k G I J a1).bind fun D=>(if D.2=0 then(matroid_Span.l0 k a1 D.1 a1 G 0 G I J)else(some (0,D.2)))
theorem matroid_Span.mono_l: ∀k,(∀y0 y1 y2 y3 y4 y5 y6 y7,LeO (matroid_Span.l0 k y0 y1 y2 y3 y4 y5 y6 y7) (matroid_Span.l0 (k+1) y0 y1 y2 y3 y4 y5 y6 y7))
 |0=>fun _ _ _ _ _ _ _ _ r h=>by simp[matroid_Span.l0]at h
 |k+1=>by
  have D:=matroid_Span.mono_l k
  ·intro y0 y1 y2 y3 y4 y5 y6 y7;unfold matroid_Span.l0
   with_reducible repeat' first|exact D _ _ _ _ _ _ _ _|exact matroid_Rank.mono _ _ _ _ _|exact LeO.refl _|exact LeO.none _|refine LeO.ite ?_ ?_|refine LeO.bind ?_ (fun _=>?_)
theorem matroid_Span.mono: ∀a0 a1 a2 a3 k,LeO (matroid_Span.f k a0 a1 a2 a3) (matroid_Span.f (k+1) a0 a1 a2 a3):=by
 intro a0 a1 a2 a3 k;have D:=matroid_Span.mono_l k;unfold matroid_Span.f
 with_reducible repeat' first|exact D _ _ _ _ _ _ _ _|exact matroid_Rank.mono _ _ _ _ _|exact LeO.refl _|exact LeO.none _|refine LeO.ite ?_ ?_|refine LeO.bind ?_ (fun _=>?_)
def matroid_Span.T9:Bool×List (List Nat×List Nat):=(true,[([],[]),([],[]),([],[]),([2],[2]),([1,3],[1,3]),([0,4],[0,4]),([5],[5]),([6],[6]),([6],[6]),([7,5,0,1,2,3,4,5,6,7],[7]),([8,9,0,1,2,3,4,5,6,7,8,9],[8])])
def matroid_Span.B9:List Nat:= [0,0,0,4,14,31,63,127,127,255,1023]
theorem matroid_Span.tab9:rtab .any (opsOf Tryd.f63 9)=matroid_Span.T9:=by kernel_rfl
theorem matroid_Span.bits9:waitsOk matroid_Span.T9.2 matroid_Span.B9=true:=by kernel_rfl
theorem matroid_Span.calls(k:Nat)(I:Int)(L:Int)(O:Option Addr)(U:Nat)(J:List Int)(a1:Int)(r1:Int)(r2:Int)(w:World)(a9:Kd.C (Kd.int .u8) w O J.length J)(a2:J.length<=U)(h:matroid_Span.f k I L J a1=some (r1,r2))(hT:TabAt 0 Lib.deBruijn64tab w):
 Calls Tryd.prog 63 #[.agg #[.int .i64 I,.int .i64 L,.slice O J.length U],.int .u64 a1] w fun e w'=>e= .returned (.tuple #[.int .u64 r1,.int .i64 r2])/\Below w.heap.size w w':=by
 have HT:=aK hT;clear hT;have bj:=Tryd.underlying24;have af:=aK a9;have ae:=aK a2;clear a9 a2;have HB:=aK (Below.refl w.heap.size w);have H:((matroid_Rank.f k I L J a1).bind fun aj=>(if aj.2=0 then(matroid_Span.l0 k a1 aj.1 a1 I 0 I L J)else(some (0,aj.2))))=some (r1,r2):=h;clear h;obtain⟨⟨X,ab⟩,A3,H⟩:=bindO H
 (try dsimp only at H)
 by_cases c4:ab=0
 case neg=>
  rw[if_neg c4]at H
  have c4b0:(ab==0)=false:=beq_eq_false_iff_ne.mpr c4;have c4b1:(ab !=0)=true:=bne_iff_ne.mpr c4;obtain⟨rfl,rfl⟩:=zP2 H
  go_enter Tryd.func63,Tryd.ntmps63
  go_wp2_with (first|((with_reducible refine gD 2 rfl ?_);refine bE 2 #[.int .i64 I,.int .i64 L,.slice O J.length U] 24 ?_;intro Y hg bh hbox hb;have D:=aK (hbox);have ai:=hbS HB hg;have ah:=hbS HB hg;replace HB:=hbB HB hb;clear hb hbox hg;obtain⟨a3,a4,a5,a6,a7,a8⟩:=cell3 D)|((with_reducible refine gC 89 rfl ?_);refine cG (some 15) Tryd.func89 #[.agg #[.int .i64 I,.int .i64 L,.slice O J.length U],.int .u64 a1] ?_;(with_reducible refine(matroid_Rank.calls k I L _ _ J a1 X ab _ ?side1 ?side2 A3.out (tab_below HT.out zj)).mono ?_);(case side1=>exact kcB af HB);(case side2=>exact ae.out);rintro e bi ⟨rfl,hb⟩;refine⟨_,rfl,?_⟩;replace D:=bkB D hb;replace HB:=hbB HB hb;(try clear hb)))
  refine wp_scope_straight ?_
  go_wp2_with (first|((with_reducible refine gD 2 rfl ?_);refine bE 2 #[.int .i64 I,.int .i64 L,.slice O J.length U] 24 ?_;intro Y hg bh hbox hb;have D:=aK (hbox);have ai:=hbS HB hg;have ah:=hbS HB hg;replace HB:=hbB HB hb;clear hb hbox hg;obtain⟨a3,a4,a5,a6,a7,a8⟩:=cell3 D)|((with_reducible refine gC 89 rfl ?_);refine cG (some 15) Tryd.func89 #[.agg #[.int .i64 I,.int .i64 L,.slice O J.length U],.int .u64 a1] ?_;(with_reducible refine(matroid_Rank.calls k I L _ _ J a1 X ab _ ?side1 ?side2 A3.out (tab_below HT.out zj)).mono ?_);(case side1=>exact kcB af HB);(case side2=>exact ae.out);rintro e bi ⟨rfl,hb⟩;refine⟨_,rfl,?_⟩;replace D:=bkB D hb;replace HB:=hbB HB hb;(try clear hb)))
  (try simp only[Exit.noGoto])
  go_ret2
  exact⟨rfE,hbA HB.out⟩
 rw[if_pos c4]at H
 have c4b0:(ab==0)=true:=beq_iff_eq.mpr c4;have c4b1:(ab !=0)=false:=bne_eq_false_iff_eq.mpr c4;clear c4;have H':=aK H;clear H
 go_enter Tryd.func63,Tryd.ntmps63
 go_wp2_with (first|((with_reducible refine gD 2 rfl ?_);refine bE 2 #[.int .i64 I,.int .i64 L,.slice O J.length U] 24 ?_;intro Y hg w5 hbox hb;have D:=aK (hbox);have ai:=hbS HB hg;have ah:=hbS HB hg;replace HB:=hbB HB hb;clear hb hbox hg;obtain⟨al,am,an,ar,au,av⟩:=cell3 D)|((with_reducible refine gC 89 rfl ?_);refine cG (some 15) Tryd.func89 #[.agg #[.int .i64 I,.int .i64 L,.slice O J.length U],.int .u64 a1] ?_;(with_reducible refine(matroid_Rank.calls k I L _ _ J a1 X ab _ ?side1 ?side2 A3.out (tab_below HT.out zj)).mono ?_);(case side1=>exact kcB af HB);(case side2=>exact ae.out);rintro e w7 ⟨rfl,hb⟩;refine⟨_,rfl,?_⟩;replace D:=bkB D hb;replace HB:=hbB HB hb;(try clear hb);obtain⟨ao,ap,aq,aw,ax,ay⟩:=cell3 D))
 refine wp_scope_straight ?_
 go_wp2_with (first|((with_reducible refine gD 2 rfl ?_);refine bE 2 #[.int .i64 I,.int .i64 L,.slice O J.length U] 24 ?_;intro Y hg w5 hbox hb;have D:=aK (hbox);have ai:=hbS HB hg;have ah:=hbS HB hg;replace HB:=hbB HB hb;clear hb hbox hg;obtain⟨al,am,an,ar,au,av⟩:=cell3 D)|((with_reducible refine gC 89 rfl ?_);refine cG (some 15) Tryd.func89 #[.agg #[.int .i64 I,.int .i64 L,.slice O J.length U],.int .u64 a1] ?_;(with_reducible refine(matroid_Rank.calls k I L _ _ J a1 X ab _ ?side1 ?side2 A3.out (tab_below HT.out zj)).mono ?_);(case side1=>exact kcB af HB);(case side2=>exact ae.out);rintro e w7 ⟨rfl,hb⟩;refine⟨_,rfl,?_⟩;replace D:=bkB D hb;replace HB:=hbB HB hb;(try clear hb);obtain⟨ao,ap,aq,aw,ax,ay⟩:=cell3 D))
 go_step3
 go_wp2
 go_loopg [8,24] k (fun kq v8 bg w'=> ∃(ac:Int) (G:Int),v8= .int .u64 ac/\bg= .int .i64 G/\Aside0 (matroid_Span.l0 kq a1 X ac I G I L J=some (r1,r2))/\Aside0 (kq<=k)/\Aside0 (w'.heap[Y]? =some (.cells #[.int .i64 I,.int .i64 L,(.slice O J.length U)] 24 (0,0)))/\Aside0 (Below w.heap.size w w'))
 case atStart=>exact⟨(a1),(0),rsE,rsE,H',⟨Nat.le_refl _⟩,⟨bkA D.out⟩,⟨hbA HB.out⟩⟩
 case round=>
  clear H'
  (try clear p2);(try clear c4);(try clear c4b0);(try clear c4b1);(try clear c6);(try clear c8);(try clear al am an ar au av);(try clear ao ap aq aw ax ay)
  obtain⟨ac,G,rfl,rfl,HA,az,D,HB⟩:=hrel
  cases gk with
  |zero=>exact absurd HA.out (by simp[matroid_Span.l0])
  |succ k1=>
   have H:=HA.out;clear HA;simp only[matroid_Span.l0]at H;by_cases c9:G<I
   case neg=>
    rw[if_neg c9]at H
    have c9b0:decide (G<I)=false:=decide_eq_false c9;clear c9;obtain⟨rfl,rfl⟩:=zP2 H;go_wp2
    (try simp only[Exit.noGoto])
    go_ret2
    exact⟨rfE,hbA HB.out⟩
   rw[if_pos c9]at H
   have c9b0:decide (G<I)=true:=decide_eq_true c9;clear c9;obtain⟨bd,bb,H⟩:=bindO H
   (try dsimp only at H)
   by_cases ba:bd=true
   ·subst ba;rw[if_pos rfl]at H
    have H':=aK H;clear H
    go_wp2_with (first|((with_reducible refine gC 31 rfl ?_);refine cG (some 29) Tryd.func31 #[.int .u64 a1,.int .i64 G] ?_;(with_reducible refine(subset_Has.calls a1 G true _ bb.out).mono ?_);rintro e w' ⟨rfl,⟨nd,rfl⟩⟩;refine⟨_,rfl,?_⟩))
    go_roundg k1
    case measure=>have:=az.out;omega
    case rel=>exact⟨(ac),(wrap64 (G+1)),rsE,rsE,H',⟨by have:=az.out;omega⟩,⟨bkA D.out⟩,⟨hbA HB.out⟩⟩
   replace ba:=Bool.eq_false_iff.mpr ba;subst ba;rw[if_neg nofT]at H
   by_cases a0:0<=G
   case neg=>rw[if_neg a0]at H;exact absurd H zd
   rw[if_pos a0]at H
   have c12b0:=eq_true a0;have c12b1:decide (0<=G)=true:=decide_eq_true a0;clear a0;obtain⟨aa,Z⟩: ∃j_:Int,(shl .u64 1 G)=j_:=⟨_,rfl⟩
   replace H:((matroid_Rank.f k1 I L J (Go.bits .or .u64 a1 (aa))).bind fun bc=>(if bc.1=X then(matroid_Span.l0 k1 a1 X (Go.bits .or .u64 ac (aa)) I (wrap64 (G+1)) I L J)else(matroid_Span.l0 k1 a1 X ac I (wrap64 (G+1)) I L J)))=some (r1,r2):=by first|(rw[Z]at H;exact H)|(simp only[Z]at H⊢;exact H)
   (try rw[Z]at bb)
   have hji13_:(IntKind.u64.wrap (1*2^min G.toNat 64))=aa:=Z;have hji13z:G<=64->(IntKind.u64.wrap (1*2^G.toNat))=aa:=shl_small Z;have hji13u:(IntKind.u64.wrap (2^min G.toNat 64))=aa:=by have h_:=hji13_;rw[Int.one_mul]at h_;exact h_
   have hji13v:G<=64->(IntKind.u64.wrap (2^G.toNat))=aa:=fun hle_=>by have h_:=hji13z hle_;rw[Int.one_mul]at h_;exact h_
   obtain⟨⟨ag,be⟩,bf,H⟩:=bindO H
   (try dsimp only at H)
   try go_wp2_with (first|((with_reducible refine gC 31 rfl ?_);refine cG (some 29) Tryd.func31 #[.int .u64 a1,.int .i64 G] ?_;(with_reducible refine(subset_Has.calls a1 G false _ bb.out).mono ?_);rintro e w' ⟨rfl,⟨nd,rfl⟩⟩;refine⟨_,rfl,?_⟩))
   (try(rw[drewN_self wr];generalize hq_:World.drewN wr _=wr;have n0_:Aside0 (wr.heap[Y]? =some (.cells #[.int .i64 I,.int .i64 L,.slice O J.length U] 24 (0,0))):=⟨by rw[<-hq_];exact(bkA D.out)⟩;have n1_:Aside0 (Below w.heap.size w wr):=⟨by rw[<-hq_];exact(hbA HB.out)⟩;clear D HB hq_;have D:=n0_;have HB:=n1_;clear n0_ n1_))
   replace D:=aK (blk_drew D.out);replace HB:=aK (below_drew1 HB.out);refine start_ (n:=11) (S:=fun w'=>w'.cell? ⟨Y,0,none⟩=some (.int .i64 I)/\w'.cell? ⟨Y,1,none⟩=some (.int .i64 L)/\w'.cell? ⟨Y,2,none⟩=some (.slice O J.length U)) (ds:= []) (.replicate 11 false) zc rfl rfl (z3c D) (fun hHeld=>?_);refine with_tabW matroid_Span.tab9 matroid_Span.bits9 (fun HT_ HW_=>?_);generalize wr.drew=bl at D HB hHeld⊢;refine pu 1 (some 32) (mB 11 2) HT_ ?_;refine pu 2 (some 33) (mB 11 6) HT_ ?_;refine pu 3 (some 34) (mB 11 14) HT_ ?_;refine pu 4 (some 35) (mB 11 30) HT_ ?_;refine tk3 0 (some 31) (mB 11 31) HT_ HW_ hHeld ?_;refine zoh 5 (some 36) (mB 11 63) HT_ fun K hK=>?_;refine goes_ Tryd.func89 zc rfl #[.agg #[.int .i64 I,.int .i64 L,.slice O J.length U],.int .u64 (Go.bits .or .u64 a1 (aa))] ze rfl rfl (by(try simp only[List.map_toArray,List.map_cons,List.map_nil]);first|done|(simp only[Z];rfl)|rfl|(simp only[List.length_drop,List.length_take];rfl)) ?_;with_reducible refine(matroid_Rank.calls k1 I L _ _ J (Go.bits .or .u64 a1 (aa)) ag be _ ?side1 ?side2 bf.out (tab_below HT.out zj)).mono ?_
   (case side1=>exact kcB af HB)
   (case side2=>exact ae.out)
   rintro e bm ⟨rfl,hb⟩;refine⟨_,rfl,?_⟩;replace D:=bkB D hb;replace HB:=hbB HB hb
   (try clear hb)
   (try clear bk)
   (try clear hk)
   (try clear hi)
   refine hK.out _ _ (z3c D) (fun hHeld=>?_);clear hK K;refine znm (some 36) ?_;refine pu 6 (some 30) (mB 11 127) HT_ ?_;refine pu 7 (some 37) (mB 11 255) HT_ ?_;refine pu 8 (some 38) (mB 11 511) HT_ ?_;refine pu 9 (some 10) (mB 11 1023) HT_ ?_;refine pu 10 (some 11) (mB 11 2047) HT_ ?_;refine done_ (done_of HT_.out zc) ?_;by_cases ak:ag=X
   case neg=>
    rw[if_neg ak]at H
    have c15b0:(ag==X)=false:=beq_eq_false_iff_ne.mpr ak;have c15b1:(ag !=X)=true:=bne_iff_ne.mpr ak;have H':=aK H;clear H
    try go_wp2
    go_roundg k1
    case measure=>have:=az.out;omega
    case rel=>exact⟨(ac),(wrap64 (G+1)),rsE,rsE,H',⟨by have:=az.out;omega⟩,⟨bkA D.out⟩,⟨hbA HB.out⟩⟩
   rw[if_pos ak]at H
   have c15b0:(ag==X)=true:=beq_iff_eq.mpr ak;have c15b1:(ag !=X)=false:=bne_eq_false_iff_eq.mpr ak;clear ak;have c16b0:=eq_true (of_decide_eq_true asE:0<=G);have H':=aK H;clear H
   try go_wp2
   go_roundg k1
   case measure=>have:=az.out;omega
   case rel=>exact⟨(Go.bits .or .u64 ac (aa)),(wrap64 (G+1)),za3,rsE,H',⟨by have:=az.out;omega⟩,⟨bkA D.out⟩,⟨hbA HB.out⟩⟩
def subset_may.f(a0:Int):Option (Bool):=if a0>=0 then(some (decide (a0<=64)))else(some false)
theorem subset_may.calls(a0:Int)(r:Bool)(w:World)(h:subset_may.f a0=some r):
 Calls Tryd.prog 80 #[.int .i64 a0] w fun e w'=>e= .returned (.bool r)/\Drawn0 w w':=by
 have H:(if a0>=0 then(some (decide (a0<=64)))else(some false))=some r:=h;clear h;by_cases c2:a0>=0
 ·rw[if_pos c2]at H
  have c2b0:decide (0<=a0)=true:=decide_eq_true c2;clear c2;obtain rfl:=Option.some.inj H
  go_enter Tryd.func80,Tryd.ntmps80
  go_wp2
  go_ret
  exact zD
 ·rw[if_neg c2]at H
  have c2b0:decide (0<=a0)=false:=decide_eq_false c2;clear c2;obtain rfl:=Option.some.inj H
  go_enter Tryd.func80,Tryd.ntmps80
  go_wp2
  go_ret
  exact zD
def subset_low.f(a0:Int):Option (Int):=if 0<=a0 then(some (IntKind.u64.wrap ((shl .u64 1 a0)-1)))else(none)
theorem subset_low.calls(a0:Int)(r:Int)(w:World)(h:subset_low.f a0=some r):
 Calls Tryd.prog 88 #[.int .i64 a0] w fun e w'=>e= .returned (.int .u64 r)/\Drawn0 w w':=by
 have H:(if 0<=a0 then(some (IntKind.u64.wrap ((shl .u64 1 a0)-1)))else(none))=some r:=h;clear h;by_cases c2:0<=a0
 ·rw[if_pos c2]at H
  have c2b0:=eq_true c2;have c2b1:decide (0<=a0)=true:=decide_eq_true c2;clear c2;obtain⟨G,D⟩: ∃j_:Int,(shl .u64 1 a0)=j_:=⟨_,rfl⟩
  replace H:(some (IntKind.u64.wrap ((G)-1)))=some r:=by first|(rw[D]at H;exact H)|(simp only[D]at H⊢;exact H)
  have hji3_:(IntKind.u64.wrap (1*2^min a0.toNat 64))=G:=D;have hji3z:a0<=64->(IntKind.u64.wrap (1*2^a0.toNat))=G:=shl_small D;have hji3u:(IntKind.u64.wrap (2^min a0.toNat 64))=G:=by have h_:=hji3_;rw[Int.one_mul]at h_;exact h_
  have hji3v:a0<=64->(IntKind.u64.wrap (2^a0.toNat))=G:=fun hle_=>by have h_:=hji3z hle_;rw[Int.one_mul]at h_;exact h_
  obtain rfl:=Option.some.inj H
  go_enter Tryd.func88,Tryd.ntmps88
  go_wp2
  go_ret
  exact⟨by first|rfl|(simp;done)|(simp only[<-D]<;>(first|rfl|simp))|(simp[*];done),by repeat(first|exact Drawn0.refl _|apply Drawn0.step)⟩
 ·rw[if_neg c2]at H
  exact absurd H zd
def subset_Full.f(a0:Int):Option (Int×Int):=(subset_may.f a0).bind fun D=>(if D=true then((subset_low.f a0).bind fun G=>(some (G,0)))else(some (0,2)))
theorem subset_Full.calls(a0:Int)(r1:Int)(r2:Int)(w:World)(h:subset_Full.f a0=some (r1,r2)):
 Calls Tryd.prog 62 #[.int .i64 a0] w fun e w'=>e= .returned (.tuple #[.int .u64 r1,.int .i64 r2])/\Drawn0 w w':=by
 have H:((subset_may.f a0).bind fun D=>(if D=true then((subset_low.f a0).bind fun G=>(some (G,0)))else(some (0,2))))=some (r1,r2):=h;clear h;obtain⟨D,A2,H⟩:=bindO H
 (try dsimp only at H)
 by_cases c3:D=true
 ·subst c3;rw[if_pos rfl]at H
  obtain⟨G,A4,H⟩:=bindO H
  (try dsimp only at H)
  obtain⟨rfl,rfl⟩:=zP2 H
  go_enter Tryd.func62,Tryd.ntmps62
  go_wp2_with (first|((with_reducible refine gC 80 rfl ?_);refine cG (some 5) Tryd.func80 #[.int .i64 a0] ?_;(with_reducible refine(subset_may.calls a0 true _ A2.out).mono ?_);rintro e w' ⟨rfl,⟨nd,rfl⟩⟩;refine⟨_,rfl,?_⟩)|((with_reducible refine gC 88 rfl ?_);refine cG (some 8) Tryd.func88 #[.int .i64 a0] ?_;(with_reducible refine(subset_low.calls a0 G _ A4.out).mono ?_);rintro e w' ⟨rfl,⟨nd,rfl⟩⟩;refine⟨_,rfl,?_⟩))
  go_ret2
  exact zD
 ·replace c3:=Bool.eq_false_iff.mpr c3;subst c3;rw[if_neg nofT]at H
  obtain⟨rfl,rfl⟩:=zP2 H
  go_enter Tryd.func62,Tryd.ntmps62
  go_wp2_with (first|((with_reducible refine gC 80 rfl ?_);refine cG (some 5) Tryd.func80 #[.int .i64 a0] ?_;(with_reducible refine(subset_may.calls a0 false _ A2.out).mono ?_);rintro e w' ⟨rfl,⟨nd,rfl⟩⟩;refine⟨_,rfl,?_⟩))
  go_ret2
  exact zD
def local_may.j0:Nat->Int->Bool->Int->Int->List Int->Option (Bool×Int)
 |0,_,_,_,_,_=>none
 |k+1,x1,x9,D,J,L=>if x9=true then(some (false,3))else(if x1<0 then(some (false,2))else(if x1>=D then(some (false,2))else((subset_Full.f D).bind fun G=>(if G.2=0 then(if 0<=x1 then((matroid_Span.f k D J L (Go.bits .andNot .u64 G.1 (shl .u64 1 x1))).bind fun I=>((subset_Has.f I.1 x1).bind fun O=>(some (O,I.2))))else(none))else(some (false,G.2))))))
def local_may.f(k:Nat)(G:Int)(D:Int)(I:List Int)(a1:Int):Option (Bool×Int):=(matrix_Right.f G D I).bind fun J=>(if J=true then(if D<1 then(local_may.j0 k a1 true G D I)else(local_may.j0 k a1 (decide (G<D)) G D I))else(local_may.j0 k a1 true G D I))
theorem local_may.mono_l: ∀k,(∀y0 y1 y2 y3 y4,LeO (local_may.j0 k y0 y1 y2 y3 y4) (local_may.j0 (k+1) y0 y1 y2 y3 y4))
 |0=>fun _ _ _ _ _ r h=>by simp[local_may.j0]at h
 |k+1=>by
  have D:=local_may.mono_l k
  ·intro y0 y1 y2 y3 y4;unfold local_may.j0
   with_reducible repeat' first|exact D _ _ _ _ _|exact matroid_Span.mono _ _ _ _ _|exact LeO.refl _|exact LeO.none _|refine LeO.ite ?_ ?_|refine LeO.bind ?_ (fun _=>?_)
theorem local_may.mono: ∀a0 a1 a2 a3 k,LeO (local_may.f k a0 a1 a2 a3) (local_may.f (k+1) a0 a1 a2 a3):=by
 intro a0 a1 a2 a3 k;have D:=local_may.mono_l k;unfold local_may.f
 with_reducible repeat' first|exact D _ _ _ _ _|exact matroid_Span.mono _ _ _ _ _|exact LeO.refl _|exact LeO.none _|refine LeO.ite ?_ ?_|refine LeO.bind ?_ (fun _=>?_)
def local_may.T8:Bool×List (List Nat×List Nat):=(true,[([],[]),([],[]),([],[]),([2],[2]),([1,3],[1,3]),([0,4],[0,4]),([5],[5]),([6],[6]),([6],[6]),([7,5,0,1,2,3,4,5,6,7],[7]),([8,9,0,1,2,3,4,5,6,7,8,9],[8])])
def local_may.B8:List Nat:= [0,0,0,4,14,31,63,127,127,255,1023]
theorem local_may.tab8:rtab .any (opsOf Tryd.f32 8)=local_may.T8:=by kernel_rfl
theorem local_may.bits8:waitsOk local_may.T8.2 local_may.B8=true:=by kernel_rfl
theorem local_may.calls(k:Nat)(G:Int)(I:Int)(L:Option Addr)(O:Nat)(J:List Int)(a1:Int)(r1:Bool)(r2:Int)(w:World)(bc:Kd.C (Kd.int .u8) w L J.length J)(ak:J.length<=O)(h:local_may.f k G I J a1=some (r1,r2))(hT:TabAt 0 Lib.deBruijn64tab w):
 Calls Tryd.prog 32 #[.agg #[.int .i64 G,.int .i64 I,.slice L J.length O],.int .i64 a1] w fun e w'=>e= .returned (.tuple #[.bool r1,.int .i64 r2])/\Below w.heap.size w w':=by
 have HT:=aK hT;clear hT;have cf:=Tryd.underlying24;have ab:=aK bc;have aa:=aK ak;clear bc ak;have HB:=aK (Below.refl w.heap.size w);have H:((matrix_Right.f G I J).bind fun bd=>(if bd=true then(if I<1 then(local_may.j0 k a1 true G I J)else(local_may.j0 k a1 (decide (G<I)) G I J))else(local_may.j0 k a1 true G I J)))=some (r1,r2):=h;clear h;have bo:=aK H;clear H
 go_enter Tryd.func32,Tryd.ntmps32
 go_upto_region 1 with(first|((with_reducible refine gD 2 rfl ?_);refine bE 2 #[.int .i64 G,.int .i64 I,.slice L J.length O] 24 ?_;intro X hg w4 hbox hb;have D:=aK (hbox);have ce:=hbS HB hg;have cd:=hbS HB hg;replace HB:=hbB HB hb;clear hb hbox hg))
 (try simp only[Act.put,zL])
 go_cut [9] (fun v9 wc=> ∃(kq:Nat) (af:Bool),v9= .bool af/\Aside0 (local_may.j0 kq a1 af G I J=some (r1,r2))/\Aside0 (kq<=k)/\Aside0 (wc.heap[X]? =some (.cells #[.int .i64 G,.int .i64 I,(.slice L J.length O)] 24 (0,0)))/\Aside0 (Below w.heap.size w wc))
 case first=>
  have H:=bo.out;clear bo;obtain⟨bd,A5,H⟩:=bindO H
  (try dsimp only at H)
  by_cases c6:bd=true
  case neg=>
   replace c6:=Bool.eq_false_iff.mpr c6;subst c6;rw[if_neg nofT]at H
   have H':=aK H;clear H;obtain⟨aw,ax,ay,a9,ba,bb⟩:=cell3 D
   go_wp2_with (first|((with_reducible refine gC 56 rfl ?_);refine cG (some 11) Tryd.func56 #[.agg #[.int .i64 G,.int .i64 I,.slice L J.length O]] ?_;(with_reducible refine(matrix_Right.calls G I _ _ J false _ ?side1 ?side2 A5.out).mono ?_);(case side1=>exact kcB ab HB);(case side2=>exact aa.out);rintro e cj ⟨rfl,hb⟩;refine⟨_,rfl,?_⟩;replace D:=bkB D hb;replace HB:=hbB HB hb;(try clear hb)))
   go_meet
   case rel=>exact⟨_,(true),rsE,H',⟨leE⟩,⟨bkA D.out⟩,⟨hbA HB.out⟩⟩
  subst c6;rw[if_pos rfl]at H
  by_cases c7:I<1
  case neg=>
   rw[if_neg c7]at H
   have c7b0:decide (I<1)=false:=decide_eq_false c7;clear c7
   (first|rw[c7b0] |(simp only[i64_w,i32_w];rw[c7b0])|skip)
   have H':=aK H;clear H;obtain⟨ao,ap,aq,a3,a4,a5⟩:=cell3 D
   go_wp2_with (first|((with_reducible refine gC 56 rfl ?_);refine cG (some 11) Tryd.func56 #[.agg #[.int .i64 G,.int .i64 I,.slice L J.length O]] ?_;(with_reducible refine(matrix_Right.calls G I _ _ J true _ ?side1 ?side2 A5.out).mono ?_);(case side1=>exact kcB ab HB);(case side2=>exact aa.out);rintro e ci ⟨rfl,hb⟩;refine⟨_,rfl,?_⟩;replace D:=bkB D hb;replace HB:=hbB HB hb;(try clear hb);obtain⟨ar,au,av,a6,a7,a8⟩:=cell3 D))
   go_meet
   case rel=>exact⟨_,(decide (G<I)),rsE,H',⟨leE⟩,⟨bkA D.out⟩,⟨hbA HB.out⟩⟩
  rw[if_pos c7]at H
  have c7b0:decide (I<1)=true:=decide_eq_true c7;clear c7
  (first|rw[c7b0] |(simp only[i64_w,i32_w];rw[c7b0])|skip)
  have H':=aK H;clear H;obtain⟨bh,bi,bj,bk,bl,bm⟩:=cell3 D
  go_wp2_with (first|((with_reducible refine gC 56 rfl ?_);refine cG (some 11) Tryd.func56 #[.agg #[.int .i64 G,.int .i64 I,.slice L J.length O]] ?_;(with_reducible refine(matrix_Right.calls G I _ _ J true _ ?side1 ?side2 A5.out).mono ?_);(case side1=>exact kcB ab HB);(case side2=>exact aa.out);rintro e w9 ⟨rfl,hb⟩;refine⟨_,rfl,?_⟩;replace D:=bkB D hb;replace HB:=hbB HB hb;(try clear hb);obtain⟨al,am,an,az,a0,a2⟩:=cell3 D))
  go_meet
  case rel=>exact⟨_,(true),rsE,H',⟨leE⟩,⟨bkA D.out⟩,⟨hbA HB.out⟩⟩
 case rest=>
  clear bo
  (try clear p2);(try clear c3);(try clear c5);(try clear c6);(try clear c7);(try clear c7b0);(try clear al am an az a0 a2);(try clear ao ap aq a3 a4 a5);(try clear ar au av a6 a7 a8);(try clear aw ax ay a9 ba bb);(try clear bh bi bj bk bl bm)
  obtain⟨kq,af,rfl,HA,cg,D,HB⟩:=hcut
  cases kq with
  |zero=>exact absurd HA.out (by simp[local_may.j0])
  |succ b8=>
   have H:=HA.out;clear HA;simp only[local_may.j0]at H;by_cases bg:af=true
   ·subst bg;rw[if_pos rfl]at H
    obtain⟨rfl,rfl⟩:=zP2 H;go_wp2
    go_ret2
    exact⟨rfE,hbA HB.out⟩
   replace bg:=Bool.eq_false_iff.mpr bg;subst bg;rw[if_neg nofT]at H
   by_cases ag:a1<0
   ·rw[if_pos ag]at H
    have c17b0:decide (a1<0)=true:=decide_eq_true ag;clear ag;obtain⟨rfl,rfl⟩:=zP2 H;go_wp2
    go_ret2
    exact⟨rfE,hbA HB.out⟩
   rw[if_neg ag]at H
   have c17b0:decide (a1<0)=false:=decide_eq_false ag;clear ag;by_cases ah:a1>=G
   ·rw[if_pos ah]at H
    have c18b0:decide (G<=a1)=true:=decide_eq_true ah;clear ah;obtain⟨rfl,rfl⟩:=zP2 H;obtain⟨bp,bq,br,bz,b0,b1⟩:=cell3 D;go_wp2
    go_ret2
    exact⟨rfE,hbA HB.out⟩
   rw[if_neg ah]at H
   have c18b0:decide (G<=a1)=false:=decide_eq_false ah;clear ah;obtain⟨⟨ac,Z⟩,bn,H⟩:=bindO H
   (try dsimp only at H)
   by_cases ae:Z=0
   case neg=>
    rw[if_neg ae]at H
    have c21b0:(Z==0)=false:=beq_eq_false_iff_ne.mpr ae;have c21b1:(Z !=0)=true:=bne_iff_ne.mpr ae;obtain⟨rfl,rfl⟩:=zP2 H;obtain⟨bv,bw,bx,b5,b6,b7⟩:=cell3 D
    go_wp2_with (first|((with_reducible refine gC 62 rfl ?_);refine cG (some 37) Tryd.func62 #[.int .i64 G] ?_;(with_reducible refine(subset_Full.calls G ac Z _ bn.out).mono ?_);rintro e w' ⟨rfl,⟨nd,rfl⟩⟩;refine⟨_,rfl,?_⟩))
    go_ret2
    exact⟨rfE,hbA HB.out⟩
   rw[if_pos ae]at H
   have c21b0:(Z==0)=true:=beq_iff_eq.mpr ae;have c21b1:(Z !=0)=false:=bne_eq_false_iff_eq.mpr ae;clear ae;by_cases aj:0<=a1
   case neg=>rw[if_neg aj]at H;exact absurd H zd
   rw[if_pos aj]at H
   have c22b0:=eq_true aj;have c22b1:decide (0<=a1)=true:=decide_eq_true aj;clear aj;obtain⟨Y,U⟩: ∃j_:Int,(shl .u64 1 a1)=j_:=⟨_,rfl⟩
   replace H:((matroid_Span.f b8 G I J (Go.bits .andNot .u64 ac (Y))).bind fun ai=>((subset_Has.f ai.1 a1).bind fun bf=>(some (bf,ai.2))))=some (r1,r2):=by first|(rw[U]at H;exact H)|(simp only[U]at H⊢;exact H)
   (try rw[U]at bn)
   have hji23_:(IntKind.u64.wrap (1*2^min a1.toNat 64))=Y:=U;have hji23z:a1<=64->(IntKind.u64.wrap (1*2^a1.toNat))=Y:=shl_small U;have hji23u:(IntKind.u64.wrap (2^min a1.toNat 64))=Y:=by have h_:=hji23_;rw[Int.one_mul]at h_;exact h_
   have hji23v:a1<=64->(IntKind.u64.wrap (2^a1.toNat))=Y:=fun hle_=>by have h_:=hji23z hle_;rw[Int.one_mul]at h_;exact h_
   obtain⟨⟨be,b9⟩,ca,H⟩:=bindO H
   (try dsimp only at H)
   obtain⟨bf,cb,H⟩:=bindO H
   (try dsimp only at H)
   obtain⟨rfl,rfl⟩:=zP2 H;obtain⟨bs,bt,bu,b2,b3,b4⟩:=cell3 D
   try go_wp2_with (first|((with_reducible refine gC 62 rfl ?_);refine cG (some 37) Tryd.func62 #[.int .i64 G] ?_;(with_reducible refine(subset_Full.calls G ac Z _ bn.out).mono ?_);rintro e w' ⟨rfl,⟨nd,rfl⟩⟩;refine⟨_,rfl,?_⟩))
   (try(rw[drewN_self wc];generalize hq_:World.drewN wc _=wc;have n0_:Aside0 (wc.heap[X]? =some (.cells #[.int .i64 G,.int .i64 I,.slice L J.length O] 24 (0,0))):=⟨by rw[<-hq_];exact(bkA D.out)⟩;have n1_:Aside0 (Below w.heap.size w wc):=⟨by rw[<-hq_];exact(hbA HB.out)⟩;clear D HB hq_;have D:=n0_;have HB:=n1_;clear n0_ n1_))
   replace D:=aK (blk_drew D.out);replace HB:=aK (below_drew1 HB.out);refine start_ (n:=11) (S:=fun w'=>w'.cell? ⟨X,0,none⟩=some (.int .i64 G)/\w'.cell? ⟨X,1,none⟩=some (.int .i64 I)/\w'.cell? ⟨X,2,none⟩=some (.slice L J.length O)) (ds:= []) (.replicate 11 false) zc rfl rfl (z3c D) (fun hHeld=>?_);refine with_tabW local_may.tab8 local_may.bits8 (fun HT_ HW_=>?_);generalize wc.drew=ck at D HB hHeld⊢;refine pu 1 (some 45) (mB 11 2) HT_ ?_;refine pu 2 (some 46) (mB 11 6) HT_ ?_;refine pu 3 (some 47) (mB 11 14) HT_ ?_;refine pu 4 (some 48) (mB 11 30) HT_ ?_;refine tk3 0 (some 44) (mB 11 31) HT_ HW_ hHeld ?_;refine zoh 5 (some 49) (mB 11 63) HT_ fun K hK=>?_;refine goes_ Tryd.func63 zc rfl #[.agg #[.int .i64 G,.int .i64 I,.slice L J.length O],.int .u64 (Go.bits .andNot .u64 ac (Y))] ze rfl rfl (by(try simp only[List.map_toArray,List.map_cons,List.map_nil]);first|done|(simp only[U];rfl)|rfl|(simp only[List.length_drop,List.length_take];rfl)) ?_;with_reducible refine(matroid_Span.calls b8 G I _ _ J (Go.bits .andNot .u64 ac (Y)) be b9 _ ?side1 ?side2 ca.out (tab_below HT.out zj)).mono ?_
   (case side1=>exact kcB ab HB)
   (case side2=>exact aa.out)
   rintro e cl ⟨rfl,hb⟩;refine⟨_,rfl,?_⟩;replace D:=bkB D hb;replace HB:=hbB HB hb
   (try clear hb)
   (try clear ch)
   (try clear hk)
   (try clear hi)
   refine hK.out _ _ (z3c D) (fun hHeld=>?_);clear hK K;refine znm (some 49) ?_;refine pu 6 (some 43) (mB 11 127) HT_ ?_;refine pu 7 (some 50) (mB 11 255) HT_ ?_;refine pu 8 (some 51) (mB 11 511) HT_ ?_;refine pu 9 (some 8) (mB 11 1023) HT_ ?_;refine pu 10 (some 7) (mB 11 2047) HT_ ?_;refine done_ (done_of HT_.out zc) ?_
   try go_wp2_with (first|((with_reducible refine gC 31 rfl ?_);refine cG (some 54) Tryd.func31 #[.int .u64 be,.int .i64 a1] ?_;(with_reducible refine(subset_Has.calls be a1 bf _ cb.out).mono ?_);rintro e w' ⟨rfl,⟨nd,rfl⟩⟩;refine⟨_,rfl,?_⟩))
   go_ret2
   exact⟨by first|rfl|(simp[errW_none,errW_some]<;>rfl)|(simp only[<-U];first|rfl|(simp[errW_none,errW_some]<;>rfl))|(simp[*,errW_none,errW_some]<;>rfl),hbA HB.out⟩
end Go.Proofs.YtjgcocfnilhggaaDoor.Q
