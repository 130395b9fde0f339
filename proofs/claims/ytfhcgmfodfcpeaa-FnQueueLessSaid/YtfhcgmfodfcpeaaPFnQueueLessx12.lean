/- Proved here, without a condition beyond those that each theorem states: what the Go functions named below do is what the plain functions of the same names say. Written by xprint.py, a program of this session. -/
import Derived.Test.YtfhcgmfodfcpeaaPFnQueueLessx0
import Derived.Test.YtfhcgmfodfcpeaaPFnQueueLessx3
import Derived.Test.YtfhcgmfodfcpeaaPFnQueueLessx11
namespace Go.Proofs.Ytfhcgmfodfcpeaa.PFnQueueLess
open Go.RowKit Go.Proofs.YtfhcgmfodfcpeaaW.PrintWords Go.Proofs.YtfhcgmfodfcpeaaW.PrintLast Go.Proofs.YtfhcgmfodfcpeaaW.PrintMore
attribute [local go_sem] max2_int min2_int max_two min_two max_three min_three max_four min_four   -- for this text's walks alone
set_option linter.unusedVariables false
set_option linter.unusedSimpArgs false

attribute [local go_sem ↓] isSome_setCell_
/-! ### sDel45: function 45 -/
theorem zero40_ (w : World) : (zeroValue 40).run Try.prog w = .ok (.agg #[.int .i64 0, .int .i64 0, .int .i64 0, .bool false]) w := by
 have h := info40
 obtain ⟨i, hi, he⟩ := Option.map_eq_some_iff.1 h
 simp only [Prod.mk.injEq] at he
 have ht : (typeInfo 40).run Try.prog w = .ok i w := by
  unfold typeInfo
  simp [hi]
 simp [zeroValue, ht, he.1]
theorem zc40_ : (Builtin.zeroCells (Value.agg #[.int .i64 0, .int .i64 0, .int .i64 0, .bool false]).cells 1).toList = [.int .i64 0, .int .i64 0, .int .i64 0, .bool false] := by
 simp [Builtin.zeroCells, Value.cells]
 first|rfl|(apply List.ext_getElem;· simp;· intro i h1 h2;simp at h1;rcases (by omega : i = 0 ∨ i = 1 ∨ i = 2 ∨ i = 3) with rfl|rfl|rfl|rfl <;> simp)
set_option maxHeartbeats 2000000 in
set_option maxRecDepth 100000 in
theorem sDel45.calls0 {base g n c : Nat} {ok : Nat → Prop} {xs : List S40} (k : Nat) (W : World) (HO : Kd.R k40 40 W base ok (.slice (some ⟨g, 0, none⟩) n c) xs) (hk : k < n) (hb : base ≤ W.heap.size) :
  Calls Try.prog 45 #[.slice (some ⟨g, 0, none⟩) n c, .int .i64 (k : Int), .int .i64 ((k : Int) + 1)] W fun e w' => e = .returned (.slice (some ⟨g, 0, none⟩) (n - 1) c) ∧ Kd.R k40 40 w' base ok (.slice (some ⟨g, 0, none⟩) (n - 1) c) (xs.eraseIdx k) ∧ W.grownBy w' (some g) ∧ Below base W w' := by
 have hu40 := Try.underlying40
 have hu23 := Try.underlying23
 have hr := Kd.R_reads' HO
 have HR := Am HO
 have hc := hr.2.1
 have HBase := Am hb
 clear HO hr hb
 have e0 : (0 : Int) ≤ (k : Int) := by omega
 have e1 : (k : Int) ≤ (k : Int) + 1 := by omega
 have e2 : (k : Int) + 1 ≤ (n : Int) := by omega
 have e3 : (n : Int) ≤ (c : Int) := by omega
 have e4 : ((k : Int) == (k : Int) + 1) = false := by simp;omega
 have e5 : ((k : Int) + 1).toNat = k + 1 := by omega
 have e6 : k ≤ c := by omega
 have e7 : k + 1 ≤ n := by omega
 have e8 : k + 1 ≤ c := by omega
 have e9 : (0 : Int) ≤ (k : Int) + 1 := by omega
 go_enter Try.func45, Try.ntmps45
 go_wp2_with fail
 refine start_ (n := 8) (S := fun _ => True) (ds := []) (bQ 8 0) (by kernel_rfl) rfl rfl trivial (fun hHeld => ?_)
 refine pure_ (i := 0) (N := some 20) (v := ?_) (a' := ?_) (bQ 8 1) rfl rfl (by kernel_rfl) (fun _ _ _ h => h) (Or.inl ⟨by rfl, ?_⟩) ?_ ?_
 rotate_left
 ·intro w';go_simp;with_reducible rfl
 rotate_left
 ·simp only [Act.put, lA, lZ, lS, iw, jw];rfl
 refine pure_ (i := 1) (N := some 21) (v := ?_) (a' := ?_) (bQ 8 3) rfl rfl (by kernel_rfl) (fun _ _ _ h => h) (Or.inl ⟨by rfl, ?_⟩) ?_ ?_
 rotate_left
 ·intro w';go_simp;with_reducible rfl
 rotate_left
 ·simp only [Act.put, lA, lZ, lS, iw, jw];rfl
 refine pure_ (i := 3) (N := some 23) (v := ?_) (a' := ?_) (bQ 8 11) rfl rfl (by kernel_rfl) (fun _ _ _ h => h) (Or.inl ⟨by rfl, ?_⟩) ?_ ?_
 rotate_left
 ·intro w';go_simp;with_reducible rfl
 rotate_left
 ·simp only [Act.put, lA, lZ, lS, iw, jw];rfl
 refine pure_ (i := 4) (N := some 24) (v := ?_) (a' := ?_) (bQ 8 27) rfl rfl (by kernel_rfl) (fun _ _ _ h => h) (Or.inl ⟨by rfl, ?_⟩) ?_ ?_
 rotate_left
 ·intro w';go_simp;with_reducible rfl
 rotate_left
 ·simp only [Act.put, lA, lZ, lS, iw, jw];rfl
 refine pure_ (i := 2) (N := some 22) (v := ?_) (a' := ?_) (bQ 8 31) rfl rfl (by kernel_rfl) (fun _ _ _ h => h) (Or.inl ⟨by rfl, ?_⟩) ?_ ?_
 rotate_left
 ·intro w';go_simp;with_reducible rfl
 rotate_left
 ·simp only [Act.put, lA, lZ, lS, iw, jw];rfl
 refine pure_ (i := 5) (N := some 25) (v := ?_) (a' := ?_) (bQ 8 63) rfl rfl (by kernel_rfl) (fun _ _ _ h => h) (Or.inl ⟨by rfl, ?_⟩) ?_ ?_
 rotate_left
 ·intro w';go_simp;with_reducible rfl
 rotate_left
 ·simp only [Act.put, lA, lZ, lS, iw, jw];rfl
 refine one_ (i := 6) (N := some 26) (bQ 8 127) rfl rfl (by kernel_rfl) (by decide) (fun K hK => ?_)
 refine Kd.R_delete_step k40 (w0 := W) base (by rfl) (.tmp 22) (.tmp 25) 23 40 rfl Try.underlying23 (by kernel_rfl) (g := g) (n := n) (c := c) (k := k) (A := if c = k + 1 then some ⟨g, 0, none⟩ else some ⟨g, (k + 1) * 4, none⟩) (c2 := c - (k + 1)) (by rfl) (by rfl) (by simp [Addr.add];rfl) rfl (rD HR.out) hk (Below.mono (o1 (Below.refl _ _)) HBase.out) (by simpa using HBase.out) ?_
 intro w1 hr1 hb1 hg1
 refine hK.out _ _ trivial (fun hHeld => ?_)
 clear hK K
 refine norm_ (a' := ?_) ?_ ?_
 rotate_left
 ·show Act.put _ (some 26) _ = _
  simp only [Act.put, lA, lZ, lS, iw, jw]
  rfl
 refine pure_ (i := 7) (N := some 0) (v := ?_) (a' := ?_) (bQ 8 255) rfl rfl (by kernel_rfl) (fun _ _ _ h => h) (Or.inl ⟨by rfl, ?_⟩) ?_ ?_
 rotate_left
 ·intro w';go_simp;with_reducible rfl
 rotate_left
 ·simp only [Act.put, lA, lZ, lS, iw, jw];rfl
 refine done_ (by kernel_rfl) ?_
 have HD := Am hr1
 have HGa := Am hg1
 have room := fun q hq => R_cells_room hr1 q hq
 have hcl : ∀ ty, (Builtin.clear_ #[23] ty #[.slice (some ⟨g, (n - 1) * 4, none⟩) 1 (c - (n - 1))]).run Try.prog w1 = .ok (.tuple #[]) (w1.setCells g ((n - 1) * 4) [.int .i64 0, .int .i64 0, .int .i64 0, .bool false]) := fun ty =>
  run_clear_one w1 23 40 ty _ [.int .i64 0, .int .i64 0, .int .i64 0, .bool false] Try.underlying23 zero40_ zc40_ (by simp [Value.oneCell']) g _ _ (fun j hj => (room _ (by show (n - 1) * 4 + j < c * 4;simp at hj;omega)).1) (fun j hj => (room _ (by show (n - 1) * 4 + j < c * 4;simp at hj;omega)).2)
 obtain ⟨hr2, hg2⟩ := R_beyond hr1 [.int .i64 0, .int .i64 0, .int .i64 0, .bool false] (off := (n - 1) * 4) (Nat.le_refl _) (by show (n - 1) * 4 + 4 ≤ c * 4;omega)
 have HD2 := Am hr2
 have HG2 := Am hg2
 have hcl' : ∀ ty, (Builtin.clear_ #[23] ty #[.slice (some ⟨g, (n - 1) * 4, none⟩) (n - (n - 1)) (c - (n - 1))]).run Try.prog w1 = .ok (.tuple #[]) (w1.setCells g ((n - 1) * 4) [.int .i64 0, .int .i64 0, .int .i64 0, .bool false]) := by
  rw [show n - (n - 1) = 1 by omega]
  exact hcl
 clear hcl
 clear hr1 hb1 hg1 hr2 hg2 room
 go_wp2
 all_goals
  go_ret
  have HW : W.grownBy (w1.setCells g ((n - 1) * 4) [.int .i64 0, .int .i64 0, .int .i64 0, .bool false]) (some g) := ⟨HG2.out.os.trans HGa.out.os, HG2.out.tape.trans HGa.out.tape, HG2.out.output.trans HGa.out.output, Nat.le_trans HGa.out.size HG2.out.size, fun q hq hne => (HG2.out.block q (Nat.lt_of_lt_of_le hq HGa.out.size) hne).trans (HGa.out.block q hq hne)⟩
  refine ⟨rfl, ?_, HW, (Below.mono (Below.refl W.heap.size W) HBase.out).grown HW HBase.out (fun q hq => by injection hq with hq;subst hq;exact Kd.R_base HR.out _ (by simp [Value.ownBlock]))⟩
  first
 |exact HD2.out
 |(have z := HD2.out;simp only [‹c = k + 1›] at z;exact z)
set_option maxHeartbeats 2000000 in
theorem sDel45.calls {base g n c:Nat} {ok:Nat → Prop} {xs:List S40} {w0 W:World} (i j:Int) (k:Nat) (HO:Kd.R k40 40 W base ok (.slice (some ⟨g,0,none⟩) n c) xs) (hi:i=(k:Int)) (hj:j=(k:Int) + 1) (hk:k<n) (HB:Below base w0 W) (hb:base≤W.heap.size) :
  Calls Try.prog 45 #[.slice (some ⟨g,0,none⟩) n c,.int .i64 i,.int .i64 j] W fun e w'=>e=.returned (.slice (some ⟨g,0,none⟩) (n - 1) c)∧Kd.R k40 40 w' base ok (.slice (some ⟨g,0,none⟩) (n - 1) c) (xs.eraseIdx k)∧Below base w0 w'∧W.grownBy w' (some g):=by
 subst hi hj
 refine (sDel45.calls0 k W HO hk hb).mono ?_
 rintro e w' ⟨rfl,h1,h2,h3⟩
 exact ⟨rfl,h1,HB.grown h2 hb (fun q hq=>by injection hq with hq;subst hq;exact Kd.R_base HO _ (by simp [Value.ownBlock])),h2⟩

/-! ### impl_QueueLess: function 28 -/
def impl_QueueLess.f (k : Nat) (l0_0 : List (S40)) (a0_1 : Int) (a1 : Int) : Option ((List (S40)) × Int × Bool) := (impl_Queue_at.f l0_0 a0_1 a1).bind fun t253 => ((impl_QueueOk.f k l0_0 a0_1).bind fun t254 => (if t254 = true then (if t253 < 0 then (some (([] : List (S40)), 0, false)) else ((impl_Queue_clone.f l0_0 a0_1).bind fun bt255 => (if 0 ≤ t253 then (if t253 ≤ (bt255.1.length : Int) then (if 0 ≤ (wrap64 (t253 + 1)) then (if (wrap64 (t253 + 1)) ≤ (bt255.1.length : Int) then (some ((bt255.1.eraseIdx (t253 : Int).toNat), bt255.2, true)) else (none)) else (none)) else (none)) else (none)))) else (some (([] : List (S40)), 0, false))))
theorem impl_QueueLess.mono : ∀ a0 a1 a2 k, LeO (impl_QueueLess.f k a0 a1 a2) (impl_QueueLess.f (k + 1) a0 a1 a2) := by
 intro a0 a1 a2 k
 unfold impl_QueueLess.f
 repeat' first
  |(with_reducible exact impl_QueueOk.mono _ _ _)
  |(with_reducible exact LeO.refl _)
  |(with_reducible exact LeO.none _)
  |(with_reducible refine LeO.ite ?_ ?_)
  |(with_reducible refine LeO.bind ?_ (fun _ => ?_))
  |exact impl_QueueOk.mono _ _ _
  |exact LeO.none _
  |refine LeO.ite ?_ ?_
  |refine LeO.bind ?_ (fun _ => ?_)
set_option maxHeartbeats 2000000 in
set_option maxRecDepth 100000 in
theorem impl_QueueLess.calls (k:Nat) (A0_0:Option Addr) (c0_0:Nat) (l0_0:List (S40)) (a0_1:Int) (a1:Int) (r1:List (S40)) (r2:Int) (r3:Bool) (w:World) (hr0_0:Kd.C k40 w A0_0 l0_0.length l0_0) (hc0_0:l0_0.length≤c0_0) (h:impl_QueueLess.f k l0_0 a0_1 a1=some (r1,r2,r3)) :
  Calls Try.prog 28 #[.agg #[.slice A0_0 l0_0.length c0_0,.int .i64 a0_1],.int .i64 a1] w fun e w'=>∃ v0_:Value,e=.returned (.tuple #[.agg #[v0_,.int .i64 r2],.bool r3])∧Kd.R k40 40 w' w.heap.size (fun _=>True) v0_ r1∧Below w.heap.size w w':=by
 have hu25:=Try.underlying25
 have HR0_0:=Am hr0_0
 have HC0_0:=Am hc0_0
 clear hr0_0 hc0_0
 have HB:=Am (Below.refl w.heap.size w)
 have H:((impl_Queue_at.f l0_0 a0_1 a1).bind fun t253=>((impl_QueueOk.f k l0_0 a0_1).bind fun t254=>(if t254=true then (if t253<0 then (some (([]:List (S40)),0,false)) else ((impl_Queue_clone.f l0_0 a0_1).bind fun bt255=>(if 0≤t253 then (if t253≤(bt255.1.length:Int) then (if 0≤(wrap64 (t253 + 1)) then (if (wrap64 (t253 + 1))≤(bt255.1.length:Int) then (some ((bt255.1.eraseIdx (t253:Int).toNat),bt255.2,true)) else (none)) else (none)) else (none)) else (none)))) else (some (([]:List (S40)),0,false)))))=some (r1,r2,r3):=h
 clear h
 replace H:=oC H
 obtain ⟨t253,A30,H⟩:=H
 replace H:((impl_QueueOk.f k l0_0 a0_1).bind fun t254=>(if t254=true then (if t253<0 then (some (([]:List (S40)),0,false)) else ((impl_Queue_clone.f l0_0 a0_1).bind fun bt255=>(if 0≤t253 then (if t253≤(bt255.1.length:Int) then (if 0≤(wrap64 (t253 + 1)) then (if (wrap64 (t253 + 1))≤(bt255.1.length:Int) then (some ((bt255.1.eraseIdx (t253:Int).toNat),bt255.2,true)) else (none)) else (none)) else (none)) else (none)))) else (some (([]:List (S40)),0,false))))=some (r1,r2,r3):=H
 have A3:=Am A30
 clear A30
 replace H:=oC H
 obtain ⟨t254,A40,H⟩:=H
 replace H:(if t254=true then (if t253<0 then (some (([]:List (S40)),0,false)) else ((impl_Queue_clone.f l0_0 a0_1).bind fun bt255=>(if 0≤t253 then (if t253≤(bt255.1.length:Int) then (if 0≤(wrap64 (t253 + 1)) then (if (wrap64 (t253 + 1))≤(bt255.1.length:Int) then (some ((bt255.1.eraseIdx (t253:Int).toNat),bt255.2,true)) else (none)) else (none)) else (none)) else (none)))) else (some (([]:List (S40)),0,false)))=some (r1,r2,r3):=H
 have A4:=Am A40
 clear A40
 by_cases c5:t254=true
 rotate_left
 ·replace c5:=Bool.eq_false_iff.mpr c5
  subst c5
  have H1:(some (([]:List (S40)),0,false))=some (r1,r2,r3):=by rw [if_neg (show ¬ (false=true) by decide)] at H;exact H
  clear H
  have H:=H1
  clear H1
  simp only [Option.some.injEq,Prod.mk.injEq] at H
  obtain ⟨rfl,rfl,rfl⟩:=H
  go_enter Try.func28,Try.ntmps28
  go_wp2_with (first|((with_reducible refine gate_dst (N:=2) rfl ?_);refine box_event ?hg (N:=2) ?hd (cs:=#[.slice A0_0 l0_0.length c0_0,.int .i64 a0_1]) (t:=25) ?hr ?_;(case hd=>rfl);(case hg=>rfl);(case hr=>first|(go_simp;done)|(go_simp;rfl));intro Bb hg w43 hbox hb;have n0_:=Am (bP (by repeat (first|(with_reducible first|exact HB.out|apply oA|apply pN|apply o1)|exact HB.out)) hb);have n1_:=Am (hbox);have n2_:=Am ((by rw [hg];exact (bZ (by repeat (first|(with_reducible first|exact HB.out|apply oA|apply pN|apply o1)|exact HB.out))):w.heap.size≤Bb));have n3_:=Am ((by rw [hg];exact (bZ (by repeat (first|(with_reducible first|exact HB.out|apply oA|apply pN|apply o1)|exact HB.out))):w.heap.size≤Bb));clear HB;revert n0_ n1_ n2_ n3_;intro HB Ba Bq Be;clear hb hbox hg)|((with_reducible refine gate_dst (N:=4) rfl ?_);refine box_event ?hg (N:=4) ?hd (cs:=#[.slice none 0 0,.int .i64 0]) (t:=25) ?hr ?_;(case hd=>rfl);(case hg=>rfl);(case hr=>first|(go_simp;done)|(go_simp;rfl));intro Bd hg w44 hbox hb;have n0_:=Am (bX Ba.out hb);have n1_:=Am (bP (by repeat (first|(with_reducible first|exact HB.out|apply oA|apply pN|apply o1|refine bS ?_ Be.out)|exact HB.out)) hb);have n2_:=Am (hbox);have n3_:=Am ((by rw [hg];exact (bZ (by repeat (first|(with_reducible first|exact HB.out|apply oA|apply pN|apply o1|refine bS ?_ Be.out)|exact HB.out))):w.heap.size≤Bd));have n4_:=Am ((by rw [hg];exact (bZ (by repeat (first|(with_reducible first|exact HB.out|apply oA|apply pN|apply o1|refine bS ?_ Be.out)|exact HB.out))):w.heap.size≤Bd));have n5_:=Am ((nL Ba.out hg));have n6_:=Am ((nG Ba.out hg));clear Ba HB;revert n0_ n1_ n2_ n3_ n4_ n5_ n6_;intro Ba HB Bc Br Bh Bj Bk;clear hb hbox hg;have Dp:=Bj.out;have Dq:=Bk.out;have B6:=cz0 Ba.out;have B7:=cz1 Ba.out;have B8:=bF Ba.out 0;have B9:=bF Ba.out 1)|((with_reducible refine gate_callee (f:=36) rfl ?_);refine goesL_ (some 10) rfl rfl Try.func36 (by kernel_rfl) rfl #[.agg #[.slice A0_0 l0_0.length c0_0,.int .i64 a0_1],.int .i64 a1] rfl (by (try simp only [lM,lC,lN]);first|done|rfl|(simp only [lD,lT];rfl)) ?_;(with_reducible refine (impl_Queue_at.calls _ _ l0_0 a0_1 a1 t253 _ ?side1 ?side2 A3.out).mono ?_);(case side1=>repeat (first|exact (cB HR0_0.out HB.out)|(with_reducible refine cA ?_ _)|(with_reducible refine cN ?_ _)|(with_reducible refine cD ?_)));(case side2=>exact HC0_0.out);rintro e w47 ⟨rfl,hb⟩;refine ⟨_,rfl,?_⟩;have n0_:=Am (bX Ba.out hb);have n1_:=Am (bX Bc.out hb);have n2_:=Am (bP (by repeat (first|(with_reducible first|exact HB.out|apply oA|apply pN|apply o1|refine bS ?_ Be.out|refine bS ?_ Bh.out)|exact HB.out)) hb);clear Ba Bc HB;revert n0_ n1_ n2_;intro Ba Bc HB;(try clear hb);(try clear hb2);(try clear hk);(try clear hi);have Da:=cz0 Ba.out;have Db:=cz1 Ba.out;have Dc:=bF Ba.out 0;have Dd:=bF Ba.out 1)|((with_reducible refine gate_callee (f:=16) rfl ?_);refine goesL_ (some 12) rfl rfl Try.func16 (by kernel_rfl) rfl #[.agg #[.slice A0_0 l0_0.length c0_0,.int .i64 a0_1]] rfl (by (try simp only [lM,lC,lN]);first|done|rfl|(simp only [lD,lT];rfl)) ?_;(with_reducible refine (impl_QueueOk.calls k _ _ l0_0 a0_1 false _ ?side1 ?side2 A4.out).mono ?_);(case side1=>repeat (first|exact (cB HR0_0.out HB.out)|(with_reducible refine cA ?_ _)|(with_reducible refine cN ?_ _)|(with_reducible refine cD ?_)));(case side2=>exact HC0_0.out);rintro e w49 ⟨rfl,hb⟩;refine ⟨_,rfl,?_⟩;have n0_:=Am (bX Ba.out hb);have n1_:=Am (bX Bc.out hb);have n2_:=Am (bP (by repeat (first|(with_reducible first|exact HB.out|apply oA|apply pN|apply o1|refine bS ?_ Be.out|refine bS ?_ Bh.out)|exact HB.out)) hb);clear Ba Bc HB;revert n0_ n1_ n2_;intro Ba Bc HB;(try clear hb);(try clear hb2);(try clear hk);(try clear hi);have De:=cz0 Bc.out;have Df:=cz1 Bc.out;have Dg:=bF Bc.out 0;have Dh:=bF Bc.out 1))
  refine bodyPost_ret (results_ct rfl _ _ Bd 25 #[.slice none 0 0,.int .i64 0] (0,0) _ rfl (by (with_reducible repeat (first|refine bN ?_ _|refine bD ?_|refine bA ?_ _));refine blk_put (cs:=#[.slice none 0 0,.int .i64 0]) ?_ 1 _ rfl;(with_reducible repeat (first|refine bN ?_ _|refine bD ?_|refine bA ?_ _));refine blk_put (cs:=#[.slice none 0 0,.int .i64 0]) ?_ 0 _ rfl;(with_reducible repeat (first|refine bN ?_ _|refine bD ?_|refine bA ?_ _));exact Bc.out) Try.underlying25 rfl (by kernel_rfl)) rfl ?_
  exact ⟨_,by first|rfl|(simp [errW_none,errW_some] <;> rfl)|(simp [*,errW_none,errW_some] <;> rfl),by first|exact Kd.R_nil _ _ _ _ _|exact Kd.N_nil _ _ _ _ _|exact Kd.V_nil _ _ _ _ _|exact Kd.Q_nil _ _ _ _ _|exact Kd.S_nil _ _ _ _ _,by repeat (first|(with_reducible first|exact HB.out|apply oA|apply pN|apply o1|refine bS ?_ Be.out|refine bS ?_ Bh.out)|exact HB.out)⟩


 subst c5
 have H1:(if t253<0 then (some (([]:List (S40)),0,false)) else ((impl_Queue_clone.f l0_0 a0_1).bind fun bt255=>(if 0≤t253 then (if t253≤(bt255.1.length:Int) then (if 0≤(wrap64 (t253 + 1)) then (if (wrap64 (t253 + 1))≤(bt255.1.length:Int) then (some ((bt255.1.eraseIdx (t253:Int).toNat),bt255.2,true)) else (none)) else (none)) else (none)) else (none))))=some (r1,r2,r3):=by rw [if_pos rfl] at H;exact H
 clear H
 have H:=H1
 clear H1
 by_cases c6:t253<0
 ·rw [if_pos c6] at H
  have c6b0:decide (t253<0)=true:=decide_eq_true c6
  clear c6
  simp only [Option.some.injEq,Prod.mk.injEq] at H
  obtain ⟨rfl,rfl,rfl⟩:=H
  go_enter Try.func28,Try.ntmps28
  go_wp2_with (first|((with_reducible refine gate_dst (N:=2) rfl ?_);refine box_event ?hg (N:=2) ?hd (cs:=#[.slice A0_0 l0_0.length c0_0,.int .i64 a0_1]) (t:=25) ?hr ?_;(case hd=>rfl);(case hg=>rfl);(case hr=>first|(go_simp;done)|(go_simp;rfl));intro Bb hg w7 hbox hb;have n0_:=Am (bP (by repeat (first|(with_reducible first|exact HB.out|apply oA|apply pN|apply o1)|exact HB.out)) hb);have n1_:=Am (hbox);have n2_:=Am ((by rw [hg];exact (bZ (by repeat (first|(with_reducible first|exact HB.out|apply oA|apply pN|apply o1)|exact HB.out))):w.heap.size≤Bb));have n3_:=Am ((by rw [hg];exact (bZ (by repeat (first|(with_reducible first|exact HB.out|apply oA|apply pN|apply o1)|exact HB.out))):w.heap.size≤Bb));clear HB;revert n0_ n1_ n2_ n3_;intro HB Ba Bq Be;clear hb hbox hg)|((with_reducible refine gate_dst (N:=4) rfl ?_);refine box_event ?hg (N:=4) ?hd (cs:=#[.slice none 0 0,.int .i64 0]) (t:=25) ?hr ?_;(case hd=>rfl);(case hg=>rfl);(case hr=>first|(go_simp;done)|(go_simp;rfl));intro Bd hg w8 hbox hb;have n0_:=Am (bX Ba.out hb);have n1_:=Am (bP (by repeat (first|(with_reducible first|exact HB.out|apply oA|apply pN|apply o1|refine bS ?_ Be.out)|exact HB.out)) hb);have n2_:=Am (hbox);have n3_:=Am ((by rw [hg];exact (bZ (by repeat (first|(with_reducible first|exact HB.out|apply oA|apply pN|apply o1|refine bS ?_ Be.out)|exact HB.out))):w.heap.size≤Bd));have n4_:=Am ((by rw [hg];exact (bZ (by repeat (first|(with_reducible first|exact HB.out|apply oA|apply pN|apply o1|refine bS ?_ Be.out)|exact HB.out))):w.heap.size≤Bd));have n5_:=Am ((nL Ba.out hg));have n6_:=Am ((nG Ba.out hg));clear Ba HB;revert n0_ n1_ n2_ n3_ n4_ n5_ n6_;intro Ba HB Bc Br Bh Bj Bk;clear hb hbox hg;have Dr:=Bj.out;have Ds:=Bk.out;have Bs:=cz0 Ba.out;have Bt:=cz1 Ba.out;have Bu:=bF Ba.out 0;have Bv:=bF Ba.out 1)|((with_reducible refine gate_callee (f:=36) rfl ?_);refine goesL_ (some 10) rfl rfl Try.func36 (by kernel_rfl) rfl #[.agg #[.slice A0_0 l0_0.length c0_0,.int .i64 a0_1],.int .i64 a1] rfl (by (try simp only [lM,lC,lN]);first|done|rfl|(simp only [lD,lT];rfl)) ?_;(with_reducible refine (impl_Queue_at.calls _ _ l0_0 a0_1 a1 t253 _ ?side1 ?side2 A3.out).mono ?_);(case side1=>repeat (first|exact (cB HR0_0.out HB.out)|(with_reducible refine cA ?_ _)|(with_reducible refine cN ?_ _)|(with_reducible refine cD ?_)));(case side2=>exact HC0_0.out);rintro e w11 ⟨rfl,hb⟩;refine ⟨_,rfl,?_⟩;have n0_:=Am (bX Ba.out hb);have n1_:=Am (bX Bc.out hb);have n2_:=Am (bP (by repeat (first|(with_reducible first|exact HB.out|apply oA|apply pN|apply o1|refine bS ?_ Be.out|refine bS ?_ Bh.out)|exact HB.out)) hb);clear Ba Bc HB;revert n0_ n1_ n2_;intro Ba Bc HB;(try clear hb);(try clear hb2);(try clear hk);(try clear hi);have Bw:=cz0 Ba.out;have Bx:=cz1 Ba.out;have By:=bF Ba.out 0;have Bz:=bF Ba.out 1)|((with_reducible refine gate_callee (f:=16) rfl ?_);refine goesL_ (some 12) rfl rfl Try.func16 (by kernel_rfl) rfl #[.agg #[.slice A0_0 l0_0.length c0_0,.int .i64 a0_1]] rfl (by (try simp only [lM,lC,lN]);first|done|rfl|(simp only [lD,lT];rfl)) ?_;(with_reducible refine (impl_QueueOk.calls k _ _ l0_0 a0_1 true _ ?side1 ?side2 A4.out).mono ?_);(case side1=>repeat (first|exact (cB HR0_0.out HB.out)|(with_reducible refine cA ?_ _)|(with_reducible refine cN ?_ _)|(with_reducible refine cD ?_)));(case side2=>exact HC0_0.out);rintro e w13 ⟨rfl,hb⟩;refine ⟨_,rfl,?_⟩;have n0_:=Am (bX Ba.out hb);have n1_:=Am (bX Bc.out hb);have n2_:=Am (bP (by repeat (first|(with_reducible first|exact HB.out|apply oA|apply pN|apply o1|refine bS ?_ Be.out|refine bS ?_ Bh.out)|exact HB.out)) hb);clear Ba Bc HB;revert n0_ n1_ n2_;intro Ba Bc HB;(try clear hb);(try clear hb2);(try clear hk);(try clear hi);have BA:=cz0 Bc.out;have BB:=cz1 Bc.out;have BC:=bF Bc.out 0;have BD:=bF Bc.out 1))
  refine bodyPost_ret (results_ct rfl _ _ Bd 25 #[.slice none 0 0,.int .i64 0] (0,0) _ rfl (by (with_reducible repeat (first|refine bN ?_ _|refine bD ?_|refine bA ?_ _));refine blk_put (cs:=#[.slice none 0 0,.int .i64 0]) ?_ 1 _ rfl;(with_reducible repeat (first|refine bN ?_ _|refine bD ?_|refine bA ?_ _));refine blk_put (cs:=#[.slice none 0 0,.int .i64 0]) ?_ 0 _ rfl;(with_reducible repeat (first|refine bN ?_ _|refine bD ?_|refine bA ?_ _));exact Bc.out) Try.underlying25 rfl (by kernel_rfl)) rfl ?_
  exact ⟨_,by first|rfl|(simp [errW_none,errW_some] <;> rfl)|(simp [*,errW_none,errW_some] <;> rfl),by first|exact Kd.R_nil _ _ _ _ _|exact Kd.N_nil _ _ _ _ _|exact Kd.V_nil _ _ _ _ _|exact Kd.Q_nil _ _ _ _ _|exact Kd.S_nil _ _ _ _ _,by repeat (first|(with_reducible first|exact HB.out|apply oA|apply pN|apply o1|refine bS ?_ Be.out|refine bS ?_ Bh.out)|exact HB.out)⟩
 rw [if_neg c6] at H
 have c6b0:decide (t253<0)=false:=decide_eq_false c6
 clear c6
 replace H:=oC H
 obtain ⟨⟨t255,t258⟩,A150,H⟩:=H
 replace H:(if 0≤t253 then (if t253≤(t255.length:Int) then (if 0≤(wrap64 (t253 + 1)) then (if (wrap64 (t253 + 1))≤(t255.length:Int) then (some ((t255.eraseIdx (t253:Int).toNat),t258,true)) else (none)) else (none)) else (none)) else (none))=some (r1,r2,r3):=H
 have A15:=Am A150
 clear A150
 by_cases c16:0≤t253
 rotate_left
 ·rw [if_neg c16] at H
  exact absurd H (by simp)
 rw [if_pos c16] at H
 have c16b0:=eq_true c16
 have c16b1:decide (0≤t253)=true:=decide_eq_true c16
 clear c16
 by_cases c17:t253≤(t255.length:Int)
 rotate_left
 ·rw [if_neg c17] at H
  exact absurd H (by simp)
 rw [if_pos c17] at H
 have c17b0:=eq_true c17
 have c17b1:decide (t253≤(t255.length:Int))=true:=decide_eq_true c17
 clear c17
 obtain ⟨y260,hy260⟩:∃ y_:List (S40),y_=(t255.take (t253:Int).toNat):=⟨_,rfl⟩
 replace H:(if 0≤(wrap64 (t253 + 1)) then (if (wrap64 (t253 + 1))≤(t255.length:Int) then (some ((t255.eraseIdx (t253:Int).toNat),t258,true)) else (none)) else (none))=some (r1,r2,r3):=by first|(rw [hy260];with_reducible exact H)|(have H2_:=(Option.bind_some _ _).symm.trans H;rw [hy260];with_reducible exact H2_)|(have H2_:=(Option.bind_some _ _).symm.trans H;with_reducible exact H2_)|with_reducible exact H|(rw [hy260];exact H)|exact H
 have Ny260:=Am hy260
 clear hy260
 obtain ⟨ji18,hji18⟩:∃ j_:Int,(wrap64 (t253 + 1))=j_:=⟨_,rfl⟩
 replace H:(if 0≤(ji18) then (if (ji18)≤(t255.length:Int) then (some ((t255.eraseIdx (t253:Int).toNat),t258,true)) else (none)) else (none))=some (r1,r2,r3):=by first|(rw [hji18] at H;exact H)|(simp only [hji18] at H ⊢;exact H)
 (try rw [hji18] at A3)
 (try rw [hji18] at A4)
 (try rw [hji18] at A15)
 have hji18w:(IntKind.i64.wrap (t253 + 1))=ji18:=(i64_w _).trans hji18
 by_cases c19:0≤(ji18)
 rotate_left
 ·rw [if_neg c19] at H
  exact absurd H (by simp)
 rw [if_pos c19] at H
 have c19b0:=eq_true c19
 have c19b1:decide (0≤(ji18))=true:=decide_eq_true c19
 clear c19
 by_cases c20:(ji18)≤(t255.length:Int)
 rotate_left
 ·rw [if_neg c20] at H
  exact absurd H (by simp)
 rw [if_pos c20] at H
 have c20b0:=eq_true c20
 have c20b1:decide ((ji18)≤(t255.length:Int))=true:=decide_eq_true c20
 clear c20
 obtain ⟨y264,hy264⟩:∃ y_:List (S40),y_=(t255.drop ((ji18):Int).toNat):=⟨_,rfl⟩
 replace H:(some ((t255.eraseIdx (t253:Int).toNat),t258,true))=some (r1,r2,r3):=by first|(rw [hy264];with_reducible exact H)|(have H2_:=(Option.bind_some _ _).symm.trans H;rw [hy264];with_reducible exact H2_)|(have H2_:=(Option.bind_some _ _).symm.trans H;with_reducible exact H2_)|with_reducible exact H|(rw [hy264];exact H)|exact H
 have Ny264:=Am hy264
 clear hy264
 obtain ⟨y268,hy268⟩:∃ y_:List (S40),y_=(t255.eraseIdx (t253:Int).toNat):=⟨_,rfl⟩
 replace H:(some (y268,t258,true))=some (r1,r2,r3):=by first|(rw [hy268];with_reducible exact H)|(have H2_:=(Option.bind_some _ _).symm.trans H;rw [hy268];with_reducible exact H2_)|(have H2_:=(Option.bind_some _ _).symm.trans H;with_reducible exact H2_)|with_reducible exact H|(rw [hy268];exact H)|exact H
 have Ny268:=Am hy268
 clear hy268
 simp only [Option.some.injEq,Prod.mk.injEq] at H
 obtain ⟨rfl,rfl,rfl⟩:=H
 go_enter Try.func28,Try.ntmps28
 go_wp2_with (first|((with_reducible refine gate_dst (N:=2) rfl ?_);refine box_event ?hg (N:=2) ?hd (cs:=#[.slice A0_0 l0_0.length c0_0,.int .i64 a0_1]) (t:=25) ?hr ?_;(case hd=>rfl);(case hg=>rfl);(case hr=>first|(go_simp;done)|(go_simp;rfl));intro Bb hg w21 hbox hb;have n0_:=Am (bP (by repeat (first|(with_reducible first|exact HB.out|apply oA|apply pN|apply o1)|exact HB.out)) hb);have n1_:=Am (hbox);have n2_:=Am ((by rw [hg];exact (bZ (by repeat (first|(with_reducible first|exact HB.out|apply oA|apply pN|apply o1)|exact HB.out))):w.heap.size≤Bb));have n3_:=Am ((by rw [hg];exact (bZ (by repeat (first|(with_reducible first|exact HB.out|apply oA|apply pN|apply o1)|exact HB.out))):w.heap.size≤Bb));clear HB;revert n0_ n1_ n2_ n3_;intro HB Ba Bq Be;clear hb hbox hg)|((with_reducible refine gate_dst (N:=4) rfl ?_);refine box_event ?hg (N:=4) ?hd (cs:=#[.slice none 0 0,.int .i64 0]) (t:=25) ?hr ?_;(case hd=>rfl);(case hg=>rfl);(case hr=>first|(go_simp;done)|(go_simp;rfl));intro Bd hg w22 hbox hb;have n0_:=Am (bX Ba.out hb);have n1_:=Am (bP (by repeat (first|(with_reducible first|exact HB.out|apply oA|apply pN|apply o1|refine bS ?_ Be.out)|exact HB.out)) hb);have n2_:=Am (hbox);have n3_:=Am ((by rw [hg];exact (bZ (by repeat (first|(with_reducible first|exact HB.out|apply oA|apply pN|apply o1|refine bS ?_ Be.out)|exact HB.out))):w.heap.size≤Bd));have n4_:=Am ((by rw [hg];exact (bZ (by repeat (first|(with_reducible first|exact HB.out|apply oA|apply pN|apply o1|refine bS ?_ Be.out)|exact HB.out))):w.heap.size≤Bd));have n5_:=Am ((nL Ba.out hg));have n6_:=Am ((nG Ba.out hg));clear Ba HB;revert n0_ n1_ n2_ n3_ n4_ n5_ n6_;intro Ba HB Bc Br Bh Bj Bk;clear hb hbox hg;have Di:=Bj.out;have Dj:=Bk.out;have BE:=cz0 Ba.out;have BF:=cz1 Ba.out;have BG:=bF Ba.out 0;have BH:=bF Ba.out 1)|((with_reducible refine gate_callee (f:=36) rfl ?_);refine goesL_ (some 10) rfl rfl Try.func36 (by kernel_rfl) rfl #[.agg #[.slice A0_0 l0_0.length c0_0,.int .i64 a0_1],.int .i64 a1] rfl (by (try simp only [lM,lC,lN]);first|done|rfl|(simp only [lD,lT];rfl)) ?_;(with_reducible refine (impl_Queue_at.calls _ _ l0_0 a0_1 a1 t253 _ ?side1 ?side2 A3.out).mono ?_);(case side1=>repeat (first|exact (cB HR0_0.out HB.out)|(with_reducible refine cA ?_ _)|(with_reducible refine cN ?_ _)|(with_reducible refine cD ?_)));(case side2=>exact HC0_0.out);rintro e w25 ⟨rfl,hb⟩;refine ⟨_,rfl,?_⟩;have n0_:=Am (bX Ba.out hb);have n1_:=Am (bX Bc.out hb);have n2_:=Am (bP (by repeat (first|(with_reducible first|exact HB.out|apply oA|apply pN|apply o1|refine bS ?_ Be.out|refine bS ?_ Bh.out)|exact HB.out)) hb);clear Ba Bc HB;revert n0_ n1_ n2_;intro Ba Bc HB;(try clear hb);(try clear hb2);(try clear hk);(try clear hi);have BI:=cz0 Ba.out;have BJ:=cz1 Ba.out;have BK:=bF Ba.out 0;have BL:=bF Ba.out 1)|((with_reducible refine gate_callee (f:=16) rfl ?_);refine goesL_ (some 12) rfl rfl Try.func16 (by kernel_rfl) rfl #[.agg #[.slice A0_0 l0_0.length c0_0,.int .i64 a0_1]] rfl (by (try simp only [lM,lC,lN]);first|done|rfl|(simp only [lD,lT];rfl)) ?_;(with_reducible refine (impl_QueueOk.calls k _ _ l0_0 a0_1 true _ ?side1 ?side2 A4.out).mono ?_);(case side1=>repeat (first|exact (cB HR0_0.out HB.out)|(with_reducible refine cA ?_ _)|(with_reducible refine cN ?_ _)|(with_reducible refine cD ?_)));(case side2=>exact HC0_0.out);rintro e w27 ⟨rfl,hb⟩;refine ⟨_,rfl,?_⟩;have n0_:=Am (bX Ba.out hb);have n1_:=Am (bX Bc.out hb);have n2_:=Am (bP (by repeat (first|(with_reducible first|exact HB.out|apply oA|apply pN|apply o1|refine bS ?_ Be.out|refine bS ?_ Bh.out)|exact HB.out)) hb);clear Ba Bc HB;revert n0_ n1_ n2_;intro Ba Bc HB;(try clear hb);(try clear hb2);(try clear hk);(try clear hi);have BM:=cz0 Ba.out;have BN:=cz1 Ba.out;have BO:=bF Ba.out 0;have BP:=bF Ba.out 1)|((with_reducible refine gate_callee (f:=37) rfl ?_);refine goesL_ (some 20) rfl rfl Try.func37 (by kernel_rfl) rfl #[.agg #[.slice A0_0 l0_0.length c0_0,.int .i64 a0_1]] rfl (by (try simp only [lM,lC,lN]);first|done|rfl|(simp only [lD,lT];rfl)) ?_;(with_reducible refine (impl_Queue_clone.calls _ _ l0_0 a0_1 t255 t258 _ ?side1 ?side2 A15.out).mono ?_);(case side1=>repeat (first|exact (cB HR0_0.out HB.out)|(with_reducible refine cA ?_ _)|(with_reducible refine cN ?_ _)|(with_reducible refine cD ?_)));(case side2=>exact HC0_0.out);rintro e w29 ⟨v256,rfl,ho0,hb⟩;refine ⟨_,rfl,?_⟩;have n0_:=Am (Kd.R_lower ho0 (bZ (by repeat (first|(with_reducible first|exact HB.out|apply oA|apply pN|apply o1|refine bS ?_ Be.out|refine bS ?_ Bh.out)|exact HB.out))));have n1_:=Am (bX Ba.out hb);have n2_:=Am (bX Bc.out hb);have n3_:=Am (bP (by repeat (first|(with_reducible first|exact HB.out|apply oA|apply pN|apply o1|refine bS ?_ Be.out|refine bS ?_ Bh.out)|exact HB.out)) hb);clear Ba Bc HB;revert n0_ n1_ n2_ n3_;intro Bg Ba Bc HB;(try clear hb);(try clear hb2);(try clear hk);(try clear hi);(try clear ho0))|((with_reducible refine gate_dst (N:=7) rfl ?_);refine box_event ?hg (N:=7) ?hd (cs:=#[.slice none 0 0,.int .i64 0]) (t:=25) ?hr ?_;(case hd=>rfl);(case hg=>rfl);(case hr=>first|(go_simp;done)|(go_simp;rfl));intro Bi hg w30 hbox hb;have n0_:=Am (rB (rL Bg.out) hb);have n1_:=Am (bX Ba.out hb);have n2_:=Am (bX Bc.out hb);have n3_:=Am (bP (by repeat (first|(with_reducible first|exact HB.out|apply oA|apply pN|apply o1|refine bS ?_ Be.out|refine bS ?_ Bh.out)|exact HB.out)) hb);have n4_:=Am (hbox);have n5_:=Am ((by rw [hg];exact (bZ (by repeat (first|(with_reducible first|exact HB.out|apply oA|apply pN|apply o1|refine bS ?_ Be.out|refine bS ?_ Bh.out)|exact HB.out))):w.heap.size≤Bi));have n6_:=Am ((by rw [hg];exact (bZ (by repeat (first|(with_reducible first|exact HB.out|apply oA|apply pN|apply o1|refine bS ?_ Be.out|refine bS ?_ Bh.out)|exact HB.out))):w.heap.size≤Bi));have n7_:=Am ((nL Ba.out hg));have n8_:=Am ((nG Ba.out hg));have n9_:=Am ((nL Bc.out hg));have n10_:=Am ((nG Bc.out hg));clear Bg Ba Bc HB;revert n0_ n1_ n2_ n3_ n4_ n5_ n6_ n7_ n8_ n9_ n10_;intro Bg Ba Bc HB Bf Dk Bn Bm Bo Bl Bp;clear hb hbox hg;obtain ⟨Ao31,co31,eo31⟩:=Kd.R_slice Bg.out;subst eo31;have Dl:=Bo.out;have Dm:=Bm.out;have Dn:=Bp.out;have Do:=Bl.out;have BQ:=cz0 Bf.out;have BR:=cz1 Bf.out;have BS:=bF Bf.out 0;have BT:=bF Bf.out 1)|((with_reducible refine gate_store (t:=25) (p:=7) rfl ?_);refine store_event (t:=25) (p:=7) (v:=?vo_w35) (w1:=((w30.setCell ⟨Bi,0,none⟩ (.slice Ao31 t255.length co31)).setCell ⟨Bi,1,none⟩ (.int .i64 t258))) ?hg ?ho ?hn ?hr ?_;(case ho=>rfl);(case hg=>rfl);(case hn=>rfl);(case hr=>first|(go_simp;done)|(go_simp;rfl));intro w35 hw;have n0_:Aside0 (Kd.R k40 40 w35 w.heap.size (fun _=>True) (.slice Ao31 t255.length co31) t255):=⟨(by rw [hw];exact (by (with_reducible repeat (first|apply rA|apply rN|apply rD));exact rM (rF (p:=⟨Bi,1,none⟩) (rF (p:=⟨Bi,0,none⟩) (rT Bg.out Bf.out (by decide)) (fun _ hk=>hk.2) (.slice Ao31 t255.length co31)) (fun _ hk=>hk.2) (.int .i64 t258)) (fun _ hk=>trivial)))⟩;have n1_:Aside0 (w35.heap[Bb]?=some (.cells #[.slice A0_0 l0_0.length c0_0,.int .i64 a0_1] 25 (0,0))):=⟨(by rw [hw];exact (by (with_reducible repeat (first|refine bN ?_ _|refine bD ?_|refine bA ?_ _|refine blk_far ?_ Bm.out _));exact Ba.out))⟩;have n2_:Aside0 (w35.heap[Bd]?=some (.cells #[.slice none 0 0,.int .i64 0] 25 (0,0))):=⟨(by rw [hw];exact (by (with_reducible repeat (first|refine bN ?_ _|refine bD ?_|refine bA ?_ _|refine blk_far ?_ Bl.out _));exact Bc.out))⟩;have n3_:Aside0 (w35.heap[Bi]?=some (.cells #[.slice Ao31 t255.length co31,.int .i64 t258] 25 (0,0))):=⟨(by rw [hw];exact (by (with_reducible repeat (first|refine bN ?_ _|refine bD ?_|refine bA ?_ _));refine blk_put (cs:=#[.slice Ao31 t255.length co31,.int .i64 0]) ?_ 1 _ rfl;(with_reducible repeat (first|refine bN ?_ _|refine bD ?_|refine bA ?_ _));refine blk_put (cs:=#[.slice none 0 0,.int .i64 0]) ?_ 0 _ rfl;(with_reducible repeat (first|refine bN ?_ _|refine bD ?_|refine bA ?_ _));exact Bf.out))⟩;have n4_:Aside0 (Below w.heap.size w w35):=⟨(by rw [hw];exact (by repeat (first|(with_reducible first|exact HB.out|apply oA|apply pN|apply o1|refine bS ?_ Be.out|refine bS ?_ Bh.out|refine bS ?_ Bn.out)|exact HB.out)))⟩;clear hw Bg Ba Bc Bf HB;revert n0_ n1_ n2_ n3_ n4_;intro Bg Ba Bc Bf HB;have BU:=cz0 Bf.out;have BV:=cz1 Bf.out;have BW:=bF Bf.out 0;have BX:=bF Bf.out 1;have q37:(t253:Int)≤((t255.length:Int):Int):=of_decide_eq_true (by first|(with_reducible assumption)|assumption);obtain ⟨i037,hi037,_,hsz37,_⟩:=info_parts info40;have hroom37:t255.length≤co31:=(Kd.R_reads' Bg.out).2.1;have hC37:Kd.C k40 _ Ao31 t255.length t255:=(Kd.R_reads' Bg.out).2.2;have hcut37:=cut_to (P:=Try.prog) 23 40 .i64 Try.underlying23 hi037 Ao31 t255.length co31 t253 (of_decide_eq_true (by first|(with_reducible assumption)|assumption)) q37 hroom37;have hr37:=Kd.C_take (m:=(t253:Int).toNat) hC37 (by omega);have hy37:y260.length=(t253:Int).toNat:=(by rw [Ny260.out,lT];omega);rw [← Ny260.out] at hr37;rw [← hy37] at hcut37;have HR263:=Am hr37;have HC263:=Am (show y260.length≤co31 from by omega);clear hr37 hC37 hroom37 hi037 hsz37;have KY37:=Am hy37;clear hy37;have KL37:=Am (show (t253:Int).toNat≤t255.length from by omega);replace q37:=eq_true q37;have q38:((ji18):Int)≤((t255.length:Int):Int):=of_decide_eq_true (by first|(with_reducible assumption)|assumption);obtain ⟨i038,hi038,_,hsz38,_⟩:=info_parts info40;have hroom38:t255.length≤co31:=(Kd.R_reads' Bg.out).2.1;have hC38:Kd.C k40 _ Ao31 t255.length t255:=(Kd.R_reads' Bg.out).2.2;have q038:(0:Int)≤((ji18):Int):=of_decide_eq_true (by first|(with_reducible assumption)|assumption);have hcut38:=cut_from (P:=Try.prog) 23 40 .i64 Try.underlying23 hi038 4 hsz38 Ao31 t255.length co31 (ji18) q038 q38;have hr38:=Kd.C_drop (m:=((ji18):Int).toNat) (c:=co31) hC38 (by omega) hroom38;obtain ⟨A38,hA38⟩:∃ A1,A1=(if co31=((ji18):Int).toNat then Ao31 else (Ao31:Option Addr).map (·.add (((ji18):Int).toNat * 4))):=⟨_,rfl⟩;obtain ⟨c38,hc38⟩:∃ c1,c1=co31 - ((ji18):Int).toNat:=⟨_,rfl⟩;have hy38:y264.length=t255.length - ((ji18):Int).toNat:=(by rw [Ny264.out,lD] <;> omega);rw [show (t255).drop ((ji18):Int).toNat=y264 from Ny264.out.symm] at hr38;replace hr38:Kd.C k40 _ A38 y264.length y264:=(by rw [hA38];exact hr38);rw [← hy38,← hA38,← hc38] at hcut38;have HR267:=Am hr38;have HC267:=Am (show y264.length≤c38 from by rw [hy38,hc38];exact Nat.sub_le_sub_right hroom38 _);clear hr38 hC38 hroom38 hi038 hsz38 hc38;have KY38:=Am hy38;have KA38:=Am hA38;clear hy38 hA38;have KL38:=Am (show ((ji18):Int).toNat≤t255.length from by omega);replace q38:=eq_true q38)|((with_reducible refine gate_callee (f:=45) rfl ?_);have hj_:0≤(t253:Int):=of_decide_eq_true (by first|(with_reducible assumption)|assumption);have hl_:(ji18:Int)≤(t255.length:Int):=of_decide_eq_true (by first|(with_reducible assumption)|assumption);have hh_:(t253:Int)≤(t255.length:Int):=of_decide_eq_true (by first|(with_reducible assumption)|assumption);have hb_:=(Kd.R_reads' Bg.out).2.2.2.1;have h0_:(0:Int)≤(ji18:Int):=of_decide_eq_true (by first|(with_reducible assumption)|assumption);have hy1_:=KY37.out;have hk_:(ji18:Int).toNat=y260.length + 1:=(by have hw_:(ji18:Int)=t253 + 1:=(by have h00_:=h0_;rw [← hji18] at h00_ ⊢;unfold wrap64 at h00_ ⊢;omega);rw [hw_];omega);obtain ⟨gd40,cap_,ev_,_⟩:=Kd.R_form Bg.out (by omega);injection ev_ with ea_ _ ec_;subst ea_;subst ec_;refine goesL_ (some 26) rfl rfl Try.func45 (by kernel_rfl) rfl #[.slice (some ⟨gd40,0,none⟩) t255.length co31,.int .i64 t253,.int .i64 ji18] rfl (by (try simp only [lM,lC,lN]);first|done|rfl) ?_;refine (sDel45.calls (w0:=w) (base:=w.heap.size) t253 ji18 y260.length (rL Bg.out) ?hi_ ?hj_ ?hk_ (by repeat (first|(with_reducible first|exact HB.out|apply oA|apply pN|apply o1|refine bS ?_ Be.out|refine bS ?_ Bh.out|refine bS ?_ Bn.out)|exact HB.out)) (bZ (by repeat (first|(with_reducible first|exact HB.out|apply oA|apply pN|apply o1|refine bS ?_ Be.out|refine bS ?_ Bh.out|refine bS ?_ Bn.out)|exact HB.out)))).mono ?_;(case hi_=>omega);(case hj_=>omega);(case hk_=>omega);rintro e w39 ⟨rfl,ho,hb,hg⟩;refine ⟨_,rfl,?_⟩;clear hj_ hl_ hh_ hb_ hk_ h0_;rw [hy1_,← Ny268.out] at ho;clear hy1_;have hn_:t255.length - 1=y268.length:=(by have:=(Kd.R_reads' ho).1;omega);rw [hn_] at ho ⊢;clear hn_;have n0_:=Am (blk_grown (g:=Bb) (o:=.cells #[.slice A0_0 l0_0.length c0_0,.int .i64 a0_1] 25 (0,0)) (bL Ba.out) hg (Kd.R_ne Bg.out Ba.out (by decide)));have n1_:=Am (blk_grown (g:=Bd) (o:=.cells #[.slice none 0 0,.int .i64 0] 25 (0,0)) (bL Bc.out) hg (Kd.R_ne Bg.out Bc.out (by decide)));have n2_:=Am (ho);have n3_:=Am (blk_grown (g:=Bi) (o:=.cells #[.slice (some ⟨gd40,0,none⟩) t255.length co31,.int .i64 t258] 25 (0,0)) (bL Bf.out) hg (Kd.R_ne Bg.out Bf.out (by decide)));have n4_:=Am (hb);clear Ba Bc Bg Bf HB;revert n0_ n1_ n2_ n3_ n4_;intro Ba Bc Bg Bf HB;clear ho hb hg;have BY:=cz0 Bf.out;have BZ:=cz1 Bf.out;have B0:=bF Bf.out 0;have B1:=bF Bf.out 1;have B2:=cz0 Bc.out;have B3:=cz1 Bc.out;have B4:=bF Bc.out 0;have B5:=bF Bc.out 1))
 refine bodyPost_ret (results_ct rfl _ _ Bd 25 #[.slice (some ⟨gd40,0,none⟩) y268.length co31,.int .i64 t258] (0,0) _ rfl (by (with_reducible repeat (first|refine bN ?_ _|refine bD ?_|refine bA ?_ _));refine blk_put (cs:=#[.slice (some ⟨gd40,0,none⟩) y268.length co31,.int .i64 0]) ?_ 1 _ rfl;(with_reducible repeat (first|refine bN ?_ _|refine bD ?_|refine bA ?_ _));refine blk_put (cs:=#[.slice none 0 0,.int .i64 0]) ?_ 0 _ rfl;(with_reducible repeat (first|refine bN ?_ _|refine bD ?_|refine bA ?_ _|refine blk_far ?_ Bl.out _));exact Bc.out) Try.underlying25 rfl (by kernel_rfl)) rfl ?_
 exact ⟨_,by first|rfl|(simp [errW_none,errW_some] <;> rfl)|(simp only [← hji18];first|rfl|(simp [errW_none,errW_some] <;> rfl))|(simp [*,errW_none,errW_some] <;> rfl),by (with_reducible repeat (first|apply rA|apply rN|apply rD));exact rM (rF (p:=⟨Bd,1,none⟩) (rF (p:=⟨Bd,0,none⟩) (rF (p:=⟨Bi,0,none⟩) (rT (rT Bg.out Bf.out (by decide)) Bc.out (by decide)) (fun _ hk=>hk.1.2) (.slice (some ⟨gd40,0,none⟩) y268.length co31)) (fun _ hk=>hk.2) (.slice (some ⟨gd40,0,none⟩) y268.length co31)) (fun _ hk=>hk.2) (.int .i64 t258)) (fun _ hk=>trivial),by repeat (first|(with_reducible first|exact HB.out|apply oA|apply pN|apply o1|refine bS ?_ Be.out|refine bS ?_ Bh.out|refine bS ?_ Bn.out)|exact HB.out)⟩/-! ### spec_l6In: function 42 -/
def spec_l6In.f (a0 : Int) (a1 : Int) (a2 : Int) : Option (Bool) := if a0 ≥ a1 then (some (decide (a0 ≤ a2))) else (some false)
set_option maxHeartbeats 2000000 in
set_option maxRecDepth 100000 in
theorem spec_l6In.calls (a0:Int) (a1:Int) (a2:Int) (r:Bool) (w:World) (h:spec_l6In.f a0 a1 a2=some r) :
  Calls Try.prog 42 #[.int .i64 a0,.int .i64 a1,.int .i64 a2] w fun e w'=>e=.returned (.bool r)∧Drawn0 w w':=by
 have H:(if a0 ≥ a1 then (some (decide (a0≤a2))) else (some false))=some r:=h
 clear h
 by_cases c4:a0 ≥ a1
 ·rw [if_pos c4] at H
  have c4b0:decide (a1≤a0)=true:=decide_eq_true c4
  clear c4
  obtain rfl:=Option.some.inj H
  go_enter Try.func42,Try.ntmps42
  go_wp2
  go_ret
  exact ⟨by first|rfl|(simp;done)|(simp [*];done),by repeat (first|exact Drawn0.refl _|apply Drawn0.step)⟩
 rw [if_neg c4] at H
 have c4b0:decide (a1≤a0)=false:=decide_eq_false c4
 clear c4
 obtain rfl:=Option.some.inj H
 go_enter Try.func42,Try.ntmps42
 go_wp2
 go_ret
 exact ⟨by first|rfl|(simp;done)|(simp [*];done),by repeat (first|exact Drawn0.refl _|apply Drawn0.step)⟩

end Go.Proofs.Ytfhcgmfodfcpeaa.PFnQueueLess
