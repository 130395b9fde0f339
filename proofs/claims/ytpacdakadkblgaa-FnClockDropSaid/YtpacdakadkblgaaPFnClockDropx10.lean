/- Proved here, without a condition beyond those that each theorem states: what the Go functions named below do is what the plain functions of the same names say. Written by xprint.py, a program of this session. -/
import Derived.Test.YtpacdakadkblgaaPFnClockDropx0
import Derived.Test.YtpacdakadkblgaaPFnClockDropx3
import Derived.Test.YtpacdakadkblgaaPFnClockDropx4
namespace Go.Proofs.Ytpacdakadkblgaa.PFnClockDrop
open Go.RowKit Go.Proofs.YtpacdakadkblgaaW.PrintWords Go.Proofs.YtpacdakadkblgaaW.PrintLast Go.Proofs.YtpacdakadkblgaaW.PrintMore
attribute [local go_sem] max2_int min2_int max_two min_two max_three min_three max_four min_four   -- for this text's walks alone
set_option linter.unusedVariables false
set_option linter.unusedSimpArgs false

attribute [local go_sem ↓] isSome_setCell_
/-! ### impl_in: function 19 -/
def impl_in.f (a0 : Int) (a1 : Int) (a2 : Int) : Option (Bool) := if a0 ≥ a1 then (some (decide (a0 ≤ a2))) else (some false)
set_option maxHeartbeats 2000000 in
set_option maxRecDepth 100000 in
theorem impl_in.calls (a0:Int) (a1:Int) (a2:Int) (r:Bool) (w:World) (h:impl_in.f a0 a1 a2=some r) :
  Calls Try.prog 19 #[.int .i64 a0,.int .i64 a1,.int .i64 a2] w fun e w'=>e=.returned (.bool r)∧Drawn0 w w':=by
 have H:(if a0 ≥ a1 then (some (decide (a0≤a2))) else (some false))=some r:=h
 clear h
 by_cases c4:a0 ≥ a1
 ·rw [if_pos c4] at H
  have c4b0:decide (a1≤a0)=true:=dT c4
  clear c4
  obtain rfl:=oJ H
  go_enter Try.func19,Try.ntmps19
  go_wp2
  go_ret
  exact ⟨by first|rfl|(simp;done)|(simp [*];done),by repeat (first|exact Drawn0.refl _|apply Drawn0.step)⟩
 rw [if_neg c4] at H
 have c4b0:decide (a1≤a0)=false:=dF c4
 clear c4
 obtain rfl:=oJ H
 go_enter Try.func19,Try.ntmps19
 go_wp2
 go_ret
 exact ⟨by first|rfl|(simp;done)|(simp [*];done),by repeat (first|exact Drawn0.refl _|apply Drawn0.step)⟩

/-! ### impl_byTime: function 21 -/
def impl_byTime.f (a0_0 : Int) (a0_1 : Int) (a0_2 : Int) (a1_0 : Int) (a1_1 : Int) (a1_2 : Int) : Option (Int) := if a0_1 = a1_1 then (some (wrap64 (a0_0 - a1_0))) else (some (wrap64 (a0_1 - a1_1)))
set_option maxHeartbeats 2000000 in
set_option maxRecDepth 100000 in
theorem impl_byTime.calls (a0_0:Int) (a0_1:Int) (a0_2:Int) (a1_0:Int) (a1_1:Int) (a1_2:Int) (r:Int) (w:World) (h:impl_byTime.f a0_0 a0_1 a0_2 a1_0 a1_1 a1_2=some r) :
  Calls Try.prog 21 #[.agg #[.int .i64 a0_0,.int .i64 a0_1,.int .i64 a0_2],.agg #[.int .i64 a1_0,.int .i64 a1_1,.int .i64 a1_2]] w fun e w'=>e=.returned (.int .i64 r)∧Below w.heap.size w w':=by
 have hu35:=Try.underlying35
 have HB:=Am (bJ w.heap.size w)
 have H:(if a0_1=a1_1 then (some (wrap64 (a0_0 - a1_0))) else (some (wrap64 (a0_1 - a1_1))))=some r:=h
 clear h
 by_cases c3:a0_1=a1_1
 rotate_left
 ·rw [if_neg c3] at H
  have c3b0:(a0_1 == a1_1)=false:=beq_eq_false_iff_ne.mpr c3
  have c3b1:(a0_1 != a1_1)=true:=bne_iff_ne.mpr c3
  obtain rfl:=oJ H
  go_enter Try.func21,Try.ntmps21
  go_wp2_with (first|((with_reducible refine gD (N:=2) rfl ?_);refine bI ?hg (N:=2) ?hd (cs:=#[.int .i64 a0_0,.int .i64 a0_1,.int .i64 a0_2]) (t:=35) ?hr ?_;(case hd=>rfl);(case hg=>rfl);(case hr=>first|(go_simp;done)|(go_simp;rfl));intro Bb hg w9 hbox hb;have n0_:=Am (bP (by repeat (first|(with_reducible first|exact HB.out|apply oA|apply pN|apply o1)|exact HB.out)) hb);have n1_:=Am (hbox);have n2_:=Am ((by rw [hg];exact (bZ (by repeat (first|(with_reducible first|exact HB.out|apply oA|apply pN|apply o1)|exact HB.out))):w.heap.size≤Bb));have n3_:=Am ((by rw [hg];exact (bZ (by repeat (first|(with_reducible first|exact HB.out|apply oA|apply pN|apply o1)|exact HB.out))):w.heap.size≤Bb));clear HB;revert n0_ n1_ n2_ n3_;intro HB Ba Bi Be;clear hb hbox hg)|((with_reducible refine gD (N:=3) rfl ?_);refine bI ?hg (N:=3) ?hd (cs:=#[.int .i64 a1_0,.int .i64 a1_1,.int .i64 a1_2]) (t:=35) ?hr ?_;(case hd=>rfl);(case hg=>rfl);(case hr=>first|(go_simp;done)|(go_simp;rfl));intro Bc hg w10 hbox hb;have n0_:=Am (bX Ba.out hb);have n1_:=Am (bP (by repeat (first|(with_reducible first|exact HB.out|apply oA|apply pN|apply o1|refine bS ?_ Be.out)|exact HB.out)) hb);have n2_:=Am (hbox);have n3_:=Am ((by rw [hg];exact (bZ (by repeat (first|(with_reducible first|exact HB.out|apply oA|apply pN|apply o1|refine bS ?_ Be.out)|exact HB.out))):w.heap.size≤Bc));have n4_:=Am ((by rw [hg];exact (bZ (by repeat (first|(with_reducible first|exact HB.out|apply oA|apply pN|apply o1|refine bS ?_ Be.out)|exact HB.out))):w.heap.size≤Bc));have n5_:=Am ((nL Ba.out hg));have n6_:=Am ((nG Ba.out hg));clear Ba HB;revert n0_ n1_ n2_ n3_ n4_ n5_ n6_;intro Ba HB Bd Bj Bh Bf Bg;clear hb hbox hg;have BI:=Bf.out;have BJ:=Bg.out;have Bk:=cz0 Ba.out;have Bl:=cz1 Ba.out;have Bm:=cz2 Ba.out;have Bn:=bF Ba.out 0;have Bo:=bF Ba.out 1;have Bp:=bF Ba.out 2;have Bq:=cz0 Bd.out;have Br:=cz1 Bd.out;have Bs:=cz2 Bd.out;have Bt:=bF Bd.out 0;have Bu:=bF Bd.out 1;have Bv:=bF Bd.out 2))
  go_ret
  exact ⟨by first|rfl|(simp [errW_none,errW_some] <;> rfl)|(simp [*,errW_none,errW_some] <;> rfl),by repeat (first|(with_reducible first|exact HB.out|apply oA|apply pN|apply o1|refine bS ?_ Be.out|refine bS ?_ Bh.out)|exact HB.out)⟩


 rw [if_pos c3] at H
 have c3b0:(a0_1 == a1_1)=true:=beq_iff_eq.mpr c3
 have c3b1:(a0_1 != a1_1)=false:=bne_eq_false_iff_eq.mpr c3
 clear c3
 obtain rfl:=oJ H
 go_enter Try.func21,Try.ntmps21
 go_wp2_with (first|((with_reducible refine gD (N:=2) rfl ?_);refine bI ?hg (N:=2) ?hd (cs:=#[.int .i64 a0_0,.int .i64 a0_1,.int .i64 a0_2]) (t:=35) ?hr ?_;(case hd=>rfl);(case hg=>rfl);(case hr=>first|(go_simp;done)|(go_simp;rfl));intro Bb hg w4 hbox hb;have n0_:=Am (bP (by repeat (first|(with_reducible first|exact HB.out|apply oA|apply pN|apply o1)|exact HB.out)) hb);have n1_:=Am (hbox);have n2_:=Am ((by rw [hg];exact (bZ (by repeat (first|(with_reducible first|exact HB.out|apply oA|apply pN|apply o1)|exact HB.out))):w.heap.size≤Bb));have n3_:=Am ((by rw [hg];exact (bZ (by repeat (first|(with_reducible first|exact HB.out|apply oA|apply pN|apply o1)|exact HB.out))):w.heap.size≤Bb));clear HB;revert n0_ n1_ n2_ n3_;intro HB Ba Bi Be;clear hb hbox hg)|((with_reducible refine gD (N:=3) rfl ?_);refine bI ?hg (N:=3) ?hd (cs:=#[.int .i64 a1_0,.int .i64 a1_1,.int .i64 a1_2]) (t:=35) ?hr ?_;(case hd=>rfl);(case hg=>rfl);(case hr=>first|(go_simp;done)|(go_simp;rfl));intro Bc hg w5 hbox hb;have n0_:=Am (bX Ba.out hb);have n1_:=Am (bP (by repeat (first|(with_reducible first|exact HB.out|apply oA|apply pN|apply o1|refine bS ?_ Be.out)|exact HB.out)) hb);have n2_:=Am (hbox);have n3_:=Am ((by rw [hg];exact (bZ (by repeat (first|(with_reducible first|exact HB.out|apply oA|apply pN|apply o1|refine bS ?_ Be.out)|exact HB.out))):w.heap.size≤Bc));have n4_:=Am ((by rw [hg];exact (bZ (by repeat (first|(with_reducible first|exact HB.out|apply oA|apply pN|apply o1|refine bS ?_ Be.out)|exact HB.out))):w.heap.size≤Bc));have n5_:=Am ((nL Ba.out hg));have n6_:=Am ((nG Ba.out hg));clear Ba HB;revert n0_ n1_ n2_ n3_ n4_ n5_ n6_;intro Ba HB Bd Bj Bh Bf Bg;clear hb hbox hg;have BK:=Bf.out;have BL:=Bg.out;have Bw:=cz0 Ba.out;have Bx:=cz1 Ba.out;have By:=cz2 Ba.out;have Bz:=bF Ba.out 0;have BA:=bF Ba.out 1;have BB:=bF Ba.out 2;have BC:=cz0 Bd.out;have BD:=cz1 Bd.out;have BE:=cz2 Bd.out;have BF:=bF Bd.out 0;have BG:=bF Bd.out 1;have BH:=bF Bd.out 2))
 go_ret
 exact ⟨by first|rfl|(simp [errW_none,errW_some] <;> rfl)|(simp [*,errW_none,errW_some] <;> rfl),by repeat (first|(with_reducible first|exact HB.out|apply oA|apply pN|apply o1|refine bS ?_ Be.out|refine bS ?_ Bh.out)|exact HB.out)⟩/-! ### impl_ClockOk: function 10 -/


/-! ### impl_Clock_at: function 14 -/


/-! ### sDel15: function 15 -/
theorem zero35_ (w : World) : (zeroValue 35).run Try.prog w = .ok (.agg #[.int .i64 0, .int .i64 0, .int .i64 0]) w := by
 have h := info35
 obtain ⟨i, hi, he⟩ := Option.map_eq_some_iff.1 h
 simp only [Prod.mk.injEq] at he
 have ht : (typeInfo 35).run Try.prog w = .ok i w := by
  unfold typeInfo
  simp [hi]
 simp [zeroValue, ht, he.1]
theorem zc35_ : (Builtin.zeroCells (Value.agg #[.int .i64 0, .int .i64 0, .int .i64 0]).cells 1).toList = [.int .i64 0, .int .i64 0, .int .i64 0] := by
 simp [Builtin.zeroCells, Value.cells]
 first|rfl|(apply List.ext_getElem;· simp;· intro i h1 h2;simp at h1;rcases (by omega : i = 0 ∨ i = 1 ∨ i = 2) with rfl|rfl|rfl <;> simp)
set_option maxHeartbeats 2000000 in
set_option maxRecDepth 100000 in
theorem sDel15.calls0 {base g n c : Nat} {ok : Nat → Prop} {xs : List S35} (k : Nat) (W : World) (HO : Kd.R k35 35 W base ok (.slice (some ⟨g, 0, none⟩) n c) xs) (hk : k < n) (hb : base ≤ W.heap.size) :
  Calls Try.prog 15 #[.slice (some ⟨g, 0, none⟩) n c, .int .i64 (k : Int), .int .i64 ((k : Int) + 1)] W fun e w' => e = .returned (.slice (some ⟨g, 0, none⟩) (n - 1) c) ∧ Kd.R k35 35 w' base ok (.slice (some ⟨g, 0, none⟩) (n - 1) c) (xs.eraseIdx k) ∧ W.grownBy w' (some g) ∧ Below base W w' := by
 have hu35 := Try.underlying35
 have hu23 := Try.underlying23
 have hr := rR HO
 have HR := Am HO
 have hc := hr.2.1
 have HBase := Am hb
 clear HO hr hb
 have e0 : (0 : Int) ≤ (k : Int) := by omega
 have e1 : (k : Int) ≤ (k : Int) + 1 := by omega
 have e2 : (k : Int) + 1 ≤ (n : Int) := by omega
 have e3 : (n : Int) ≤ (c : Int) := by omega
 have e4 : ((k : Int) == (k : Int) + 1) = false := by simp;omega
 have e5 : ((k : Int) + 1).toNat = k + 1 := by omega
 have e6 : k ≤ c := by omega
 have e7 : k + 1 ≤ n := by omega
 have e8 : k + 1 ≤ c := by omega
 have e9 : (0 : Int) ≤ (k : Int) + 1 := by omega
 go_enter Try.func15, Try.ntmps15
 go_wp2_with fail
 refine start_ (n := 8) (S := fun _ => True) (ds := []) (bQ 8 0) (by kernel_rfl) rfl rfl trivial (fun hHeld => ?_)
 refine pure_ (i := 0) (N := some 20) (v := ?_) (a' := ?_) (bQ 8 1) rfl rfl (by kernel_rfl) (fun _ _ _ h => h) (Or.inl ⟨by rfl, ?_⟩) ?_ ?_
 rotate_left
 ·intro w';go_simp;with_reducible rfl
 rotate_left
 ·simp only [Act.put, lA, lZ, lS, iw, jw];rfl
 refine pure_ (i := 1) (N := some 21) (v := ?_) (a' := ?_) (bQ 8 3) rfl rfl (by kernel_rfl) (fun _ _ _ h => h) (Or.inl ⟨by rfl, ?_⟩) ?_ ?_
 rotate_left
 ·intro w';go_simp;with_reducible rfl
 rotate_left
 ·simp only [Act.put, lA, lZ, lS, iw, jw];rfl
 refine pure_ (i := 3) (N := some 23) (v := ?_) (a' := ?_) (bQ 8 11) rfl rfl (by kernel_rfl) (fun _ _ _ h => h) (Or.inl ⟨by rfl, ?_⟩) ?_ ?_
 rotate_left
 ·intro w';go_simp;with_reducible rfl
 rotate_left
 ·simp only [Act.put, lA, lZ, lS, iw, jw];rfl
 refine pure_ (i := 4) (N := some 24) (v := ?_) (a' := ?_) (bQ 8 27) rfl rfl (by kernel_rfl) (fun _ _ _ h => h) (Or.inl ⟨by rfl, ?_⟩) ?_ ?_
 rotate_left
 ·intro w';go_simp;with_reducible rfl
 rotate_left
 ·simp only [Act.put, lA, lZ, lS, iw, jw];rfl
 refine pure_ (i := 2) (N := some 22) (v := ?_) (a' := ?_) (bQ 8 31) rfl rfl (by kernel_rfl) (fun _ _ _ h => h) (Or.inl ⟨by rfl, ?_⟩) ?_ ?_
 rotate_left
 ·intro w';go_simp;with_reducible rfl
 rotate_left
 ·simp only [Act.put, lA, lZ, lS, iw, jw];rfl
 refine pure_ (i := 5) (N := some 25) (v := ?_) (a' := ?_) (bQ 8 63) rfl rfl (by kernel_rfl) (fun _ _ _ h => h) (Or.inl ⟨by rfl, ?_⟩) ?_ ?_
 rotate_left
 ·intro w';go_simp;with_reducible rfl
 rotate_left
 ·simp only [Act.put, lA, lZ, lS, iw, jw];rfl
 refine one_ (i := 6) (N := some 26) (bQ 8 127) rfl rfl (by kernel_rfl) (by decide) (fun K hK => ?_)
 refine Kd.R_delete_step k35 (w0 := W) base (by rfl) (.tmp 22) (.tmp 25) 23 35 rfl Try.underlying23 (by kernel_rfl) (g := g) (n := n) (c := c) (k := k) (A := if c = k + 1 then some ⟨g, 0, none⟩ else some ⟨g, (k + 1) * 3, none⟩) (c2 := c - (k + 1)) (by rfl) (by rfl) (by simp [Addr.add];rfl) rfl (rD HR.out) hk (Below.mono (o1 (bJ _ _)) HBase.out) (by simpa using HBase.out) ?_
 intro w1 hr1 hb1 hg1
 refine hK.out _ _ trivial (fun hHeld => ?_)
 clear hK K
 refine norm_ (a' := ?_) ?_ ?_
 rotate_left
 ·show Act.put _ (some 26) _ = _
  simp only [Act.put, lA, lZ, lS, iw, jw]
  rfl
 refine pure_ (i := 7) (N := some 0) (v := ?_) (a' := ?_) (bQ 8 255) rfl rfl (by kernel_rfl) (fun _ _ _ h => h) (Or.inl ⟨by rfl, ?_⟩) ?_ ?_
 rotate_left
 ·intro w';go_simp;with_reducible rfl
 rotate_left
 ·simp only [Act.put, lA, lZ, lS, iw, jw];rfl
 refine done_ (by kernel_rfl) ?_
 have HD := Am hr1
 have HGa := Am hg1
 have room := fun q hq => R_cells_room hr1 q hq
 have hcl : ∀ ty, (Builtin.clear_ #[23] ty #[.slice (some ⟨g, (n - 1) * 3, none⟩) 1 (c - (n - 1))]).run Try.prog w1 = .ok (.tuple #[]) (w1.setCells g ((n - 1) * 3) [.int .i64 0, .int .i64 0, .int .i64 0]) := fun ty =>
  run_clear_one w1 23 35 ty _ [.int .i64 0, .int .i64 0, .int .i64 0] Try.underlying23 zero35_ zc35_ (by simp [Value.oneCell']) g _ _ (fun j hj => (room _ (by show (n - 1) * 3 + j < c * 3;simp at hj;omega)).1) (fun j hj => (room _ (by show (n - 1) * 3 + j < c * 3;simp at hj;omega)).2)
 obtain ⟨hr2, hg2⟩ := R_beyond hr1 [.int .i64 0, .int .i64 0, .int .i64 0] (off := (n - 1) * 3) (nR _) (by show (n - 1) * 3 + 3 ≤ c * 3;omega)
 have HD2 := Am hr2
 have HG2 := Am hg2
 have hcl' : ∀ ty, (Builtin.clear_ #[23] ty #[.slice (some ⟨g, (n - 1) * 3, none⟩) (n - (n - 1)) (c - (n - 1))]).run Try.prog w1 = .ok (.tuple #[]) (w1.setCells g ((n - 1) * 3) [.int .i64 0, .int .i64 0, .int .i64 0]) := by
  rw [show n - (n - 1) = 1 by omega]
  exact hcl
 clear hcl
 clear hr1 hb1 hg1 hr2 hg2 room
 go_wp2
 all_goals
  go_ret
  have HW : W.grownBy (w1.setCells g ((n - 1) * 3) [.int .i64 0, .int .i64 0, .int .i64 0]) (some g) := ⟨HG2.out.os.trans HGa.out.os, HG2.out.tape.trans HGa.out.tape, HG2.out.output.trans HGa.out.output, Nat.le_trans HGa.out.size HG2.out.size, fun q hq hne => (HG2.out.block q (Nat.lt_of_lt_of_le hq HGa.out.size) hne).trans (HGa.out.block q hq hne)⟩
  refine ⟨rfl, ?_, HW, (Below.mono (bJ W.heap.size W) HBase.out).grown HW HBase.out (fun q hq => by injection hq with hq;subst hq;exact rZ HR.out _ (by simp [Value.ownBlock]))⟩
  first
 |exact HD2.out
 |(have z := HD2.out;simp only [‹c = k + 1›] at z;exact z)
set_option maxHeartbeats 2000000 in
theorem sDel15.calls {base g n c:Nat} {ok:Nat → Prop} {xs:List S35} {w0 W:World} (i j:Int) (k:Nat) (HO:Kd.R k35 35 W base ok (.slice (some ⟨g,0,none⟩) n c) xs) (hi:i=(k:Int)) (hj:j=(k:Int) + 1) (hk:k<n) (HB:Below base w0 W) (hb:base≤W.heap.size) :
  Calls Try.prog 15 #[.slice (some ⟨g,0,none⟩) n c,.int .i64 i,.int .i64 j] W fun e w'=>e=.returned (.slice (some ⟨g,0,none⟩) (n - 1) c)∧Kd.R k35 35 w' base ok (.slice (some ⟨g,0,none⟩) (n - 1) c) (xs.eraseIdx k)∧Below base w0 w'∧W.grownBy w' (some g):=by
 subst hi hj
 refine (sDel15.calls0 k W HO hk hb).mono ?_
 rintro e w' ⟨rfl,h1,h2,h3⟩
 exact ⟨rfl,h1,HB.grown h2 hb (fun q hq=>by injection hq with hq;subst hq;exact rZ HO _ (by simp [Value.ownBlock])),h2⟩

/-! ### impl_Alarm_16: function 16 -/
def impl_Alarm_16.f (l0 : List (S35)) : Option ((List (S35))) := (some (([] : List (S35)) : List (S35))).bind fun y251 => (if y251.length + l0.length < 5864062014805 then (some (y251 ++ l0)) else (none))
set_option maxHeartbeats 2000000 in
set_option maxRecDepth 100000 in
theorem impl_Alarm_16.calls (A0:Option Addr) (c0:Nat) (l0:List (S35)) (r:List (S35)) (w:World) (hr0:Kd.C k35 w A0 l0.length l0) (hc0:l0.length≤c0) (h:impl_Alarm_16.f l0=some r) :
  Calls Try.prog 16 #[.slice A0 l0.length c0] w fun e w'=>∃ v0_:Value,e=.returned (v0_)∧Kd.R k35 35 w' w.heap.size (fun _=>True) v0_ r∧Below w.heap.size w w':=by
 cases A0 with
|none =>
  have hl_:l0=[]:=by
   rcases l0 with _|⟨x_,xs_⟩
   ·rfl
   ·exact absurd (hr0.2.2 (by simp)) (by rintro ⟨_,h_,_⟩;cases h_)
  subst hl_
  have hr_:r=[]:=by
   unfold impl_Alarm_16.f at h
   simpa using h.symm
  subst hr_
  have q_:∀ (w:World) (a:Option Addr) (n c n' c':Nat),(binOp .eql 23 (.slice a n c) (.slice none n' c')).run Try.prog w=.ok (.bool a.isNone) w:=fun w a n c n' c'=>Lib.run_eql_slice_nil w _ _ a n c n' c' Try.underlying23
  go_enter Try.func16,Try.ntmps16
  go_wp2
  go_ret
  exact ⟨_,rfl,Kd.R_nil _ _ _ _ _,bJ _ _⟩
|some ad0_ =>
  have HR0:=Am hr0
  have HC0:=Am hc0
  clear hr0 hc0
  have HB:=Am (bJ w.heap.size w)
  have H:((some (([]:List (S35)):List (S35))).bind fun y251=>(if y251.length + l0.length<5864062014805 then (some (y251 ++ l0)) else (none)))=some r:=h
  clear h
  obtain ⟨y251,hy251⟩:∃ y_:List (S35),y_=(([]:List (S35))):=⟨_,rfl⟩
  replace H:(if y251.length + l0.length<5864062014805 then (some (y251 ++ l0)) else (none))=some r:=by first|(rw [hy251];with_reducible exact H)|(have H2_:=(Option.bind_some _ _).symm.trans H;rw [hy251];with_reducible exact H2_)|(have H2_:=(Option.bind_some _ _).symm.trans H;with_reducible exact H2_)|with_reducible exact H|(rw [hy251];exact H)|exact H
  have Ny251:=Am hy251
  clear hy251
  by_cases c2:y251.length + l0.length<5864062014805
  rotate_left
  ·rw [if_neg c2] at H
   exact absurd H (by simp)


  rw [if_pos c2] at H
  have LMc2:=Am c2
  clear c2
  obtain ⟨y254,hy254⟩:∃ y_:List (S35),y_=(y251 ++ l0):=⟨_,rfl⟩
  replace H:(some y254)=some r:=by first|(rw [hy254];with_reducible exact H)|(have H2_:=(Option.bind_some _ _).symm.trans H;rw [hy254];with_reducible exact H2_)|(have H2_:=(Option.bind_some _ _).symm.trans H;with_reducible exact H2_)|with_reducible exact H|(rw [hy254];exact H)|exact H
  have Ny254:=Am hy254
  clear hy254
  obtain rfl:=oJ H
  have q_:∀ (w:World) (a:Option Addr) (n c n' c':Nat),(binOp .eql 23 (.slice a n c) (.slice none n' c')).run Try.prog w=.ok (.bool a.isNone) w:=fun w a n c n' c'=>Lib.run_eql_slice_nil w _ _ a n c n' c' Try.underlying23
  go_enter Try.func16,Try.ntmps16
  go_wp2_with (first|((with_reducible refine gD (N:=5) rfl ?_);refine Kd.R_lit k35 _ 35 ?hg (N:=5) ?hd (xs:=([]:List (S35))) (inner:=[]) (ok:=fun _=>True) (okp:=fun _=>True) ?hr ?hp (fun _ hk=>hk) trivial (bJ _ _) (nR _) (by simp) ?_;(case hd=>rfl);(case hg=>rfl);(case hr=>first|(go_simp;done)|(go_simp;rfl));(case hp=>exact (Reps.none _ _));intro v252 w3 ho4 hb hg_ hnew_;clear hg_ hnew_;(first|rw [← Ny251.out] at ho4|(simp only [Int.reduceToNat] at ho4;rw [← Ny251.out] at ho4));have n0_:=Am (rW ho4 (bZ (by repeat (first|(with_reducible first|exact HB.out|apply oA|apply pN|apply o1)|exact HB.out))));have n1_:=Am (bP (by repeat (first|(with_reducible first|exact HB.out|apply oA|apply pN|apply o1)|exact HB.out)) hb);clear HB;revert n0_ n1_;intro Ba HB;clear hb ho4)|((with_reducible refine gate_builtin (b:=.append) (xs:=#[.tmp 5,.tmp 6]) rfl ?_);at_builtin;refine Kd.R_append_rows k35 (w0:=w) w.heap.size rfl (.tmp 5) (.tmp 6) 23 35 (.agg #[(.int .i64 0),(.int .i64 0),(.int .i64 0)]) 24 rfl Try.underlying23 info35 rfl (by decide) (by omega) v252 y251 l0 _ _ _ (fun _=>True) (fun _=>False) rfl rfl ?aO ?aR (fun _ _ h=>h) (fun _ h=>h.elim) ?aF ?aB ?aS ?aL ?_;(case aR=>repeat (first|exact (cB HR0.out HB.out)|(with_reducible refine cA ?_ _)|(with_reducible refine cN ?_ _)|(with_reducible refine cD ?_)));(case aB=>exact (by repeat (first|(with_reducible first|exact HB.out|apply oA|apply pN|apply o1)|exact HB.out)));(case aF=>exact (fun _ _=>trivial));(case aO=>exact (rL Ba.out));(case aS=>exact (bZ (by repeat (first|(with_reducible first|exact HB.out|apply oA|apply pN|apply o1)|exact HB.out))));(case aL=>have:=LMc2.out;omega);intro v255 w5 ho hb hg hat;rw [← Ny254.out] at ho;have n0_:=Am (hb);have n1_:=Am (ho);clear HB Ba;revert n0_ n1_;intro HB Bb;clear ho hb hg hat))
  go_ret
  exact ⟨_,by first|rfl|(simp [errW_none,errW_some] <;> rfl)|(simp [*,errW_none,errW_some] <;> rfl),by (with_reducible repeat (first|apply rA|apply rN|apply rD));exact Bb.out,by repeat (first|(with_reducible first|exact HB.out|apply oA|apply pN|apply o1)|exact HB.out)⟩/-! ### impl_ClockDrop: function 5 -/


/-! ### spec_ClockDrop: function 6 -/
def spec_ClockDrop.f (k : Nat) (a0_0 : Int) (l0_1 : List (S35)) (a1 : Int) : Option (Int × (List (S35)) × Bool) := (spec_l19Less.f k l0_1 a1).bind fun t259 => ((spec_ClockOk.f k a0_0 l0_1).bind fun t262 => (if t262 = true then (if (t259.length : Int) = (l0_1.length : Int) then (some (0, ([] : List (S35)), false)) else (some (a0_0, t259, true))) else (some (0, ([] : List (S35)), false))))
theorem spec_ClockDrop.mono : ∀ a0 a1 a2 k, LeO (spec_ClockDrop.f k a0 a1 a2) (spec_ClockDrop.f (k + 1) a0 a1 a2) := by
 intro a0 a1 a2 k
 unfold spec_ClockDrop.f
 repeat' first
  |(with_reducible exact spec_ClockOk.mono _ _ _)
  |(with_reducible exact spec_l19Less.mono _ _ _)
  |(with_reducible exact LeO.refl _)
  |(with_reducible exact LeO.none _)
  |(with_reducible refine LeO.ite ?_ ?_)
  |(with_reducible refine LeO.bind ?_ (fun _ => ?_))
  |exact spec_ClockOk.mono _ _ _
  |exact spec_l19Less.mono _ _ _
  |exact LeO.none _
  |refine LeO.ite ?_ ?_
  |refine LeO.bind ?_ (fun _ => ?_)
set_option maxHeartbeats 2000000 in
set_option maxRecDepth 100000 in
theorem spec_ClockDrop.calls (k:Nat) (a0_0:Int) (A0_1:Option Addr) (c0_1:Nat) (l0_1:List (S35)) (a1:Int) (r1:Int) (r2:List (S35)) (r3:Bool) (w:World) (hr0_1:Kd.C k35 w A0_1 l0_1.length l0_1) (hc0_1:l0_1.length≤c0_1) (h:spec_ClockDrop.f k a0_0 l0_1 a1=some (r1,r2,r3)) :
  Calls Try.prog 6 #[.agg #[.int .i64 a0_0,.slice A0_1 l0_1.length c0_1],.int .i64 a1] w fun e w'=>∃ v1_:Value,e=.returned (.tuple #[.agg #[.int .i64 r1,v1_],.bool r3])∧Kd.R k35 35 w' w.heap.size (fun _=>True) v1_ r2∧Below w.heap.size w w':=by
 have hu25:=Try.underlying25
 have HR0_1:=Am hr0_1
 have HC0_1:=Am hc0_1
 clear hr0_1 hc0_1
 have HB:=Am (bJ w.heap.size w)
 have H:((spec_l19Less.f k l0_1 a1).bind fun t259=>((spec_ClockOk.f k a0_0 l0_1).bind fun t262=>(if t262=true then (if (t259.length:Int)=(l0_1.length:Int) then (some (0,([]:List (S35)),false)) else (some (a0_0,t259,true))) else (some (0,([]:List (S35)),false)))))=some (r1,r2,r3):=h
 clear h
 replace H:=oC H
 obtain ⟨t259,A30,H⟩:=H
 replace H:((spec_ClockOk.f k a0_0 l0_1).bind fun t262=>(if t262=true then (if (t259.length:Int)=(l0_1.length:Int) then (some (0,([]:List (S35)),false)) else (some (a0_0,t259,true))) else (some (0,([]:List (S35)),false))))=some (r1,r2,r3):=H
 have A3:=Am A30
 clear A30
 replace H:=oC H
 obtain ⟨t262,A40,H⟩:=H
 replace H:(if t262=true then (if (t259.length:Int)=(l0_1.length:Int) then (some (0,([]:List (S35)),false)) else (some (a0_0,t259,true))) else (some (0,([]:List (S35)),false)))=some (r1,r2,r3):=H
 have A4:=Am A40
 clear A40
 by_cases c5:t262=true
 rotate_left
 ·replace c5:=Bool.eq_false_iff.mpr c5
  subst c5
  have H1:(some (0,([]:List (S35)),false))=some (r1,r2,r3):=by rw [if_neg (show ¬ (false=true) by decide)] at H;exact H
  clear H
  have H:=H1
  clear H1
  simp only [Option.some.injEq,Prod.mk.injEq] at H
  obtain ⟨rfl,rfl,rfl⟩:=H
  go_enter Try.func6,Try.ntmps6
  go_wp2_with (first|((with_reducible refine gD (N:=2) rfl ?_);(try (refine gate_guard (by rfl) ?_;dsimp only));refine bI ?hg (N:=2) ?hd (cs:=#[.int .i64 a0_0,.slice A0_1 l0_1.length c0_1]) (t:=25) ?hr ?_;(case hd=>rfl);(case hg=>rfl);(case hr=>first|(go_simp;done)|(go_simp;rfl));intro Bb hg w27 hbox hb;have n0_:=Am (bP (by repeat (first|(with_reducible first|exact HB.out|apply oA|apply pN|apply o1)|exact HB.out)) hb);have n1_:=Am (hbox);have n2_:=Am ((by rw [hg];exact (bZ (by repeat (first|(with_reducible first|exact HB.out|apply oA|apply pN|apply o1)|exact HB.out))):w.heap.size≤Bb));have n3_:=Am ((by rw [hg];exact (bZ (by repeat (first|(with_reducible first|exact HB.out|apply oA|apply pN|apply o1)|exact HB.out))):w.heap.size≤Bb));clear HB;revert n0_ n1_ n2_ n3_;intro HB Ba Bj Be;clear hb hbox hg)|((with_reducible refine gD (N:=4) rfl ?_);(try (refine gate_guard (by rfl) ?_;dsimp only));refine bI ?hg (N:=4) ?hd (cs:=#[.int .i64 0,.slice none 0 0]) (t:=25) ?hr ?_;(case hd=>rfl);(case hg=>rfl);(case hr=>first|(go_simp;done)|(go_simp;rfl));intro Bd hg w28 hbox hb;have n0_:=Am (bX Ba.out hb);have n1_:=Am (bP (by repeat (first|(with_reducible first|exact HB.out|apply oA|apply pN|apply o1|refine bS ?_ Be.out)|exact HB.out)) hb);have n2_:=Am (hbox);have n3_:=Am ((by rw [hg];exact (bZ (by repeat (first|(with_reducible first|exact HB.out|apply oA|apply pN|apply o1|refine bS ?_ Be.out)|exact HB.out))):w.heap.size≤Bd));have n4_:=Am ((by rw [hg];exact (bZ (by repeat (first|(with_reducible first|exact HB.out|apply oA|apply pN|apply o1|refine bS ?_ Be.out)|exact HB.out))):w.heap.size≤Bd));have n5_:=Am ((nL Ba.out hg));have n6_:=Am ((nG Ba.out hg));clear Ba HB;revert n0_ n1_ n2_ n3_ n4_ n5_ n6_;intro Ba HB Bc Bk Bf Bh Bi;clear hb hbox hg;have B5:=Bh.out;have B6:=Bi.out;have BR:=cz0 Ba.out;have BS:=cz1 Ba.out;have BT:=bF Ba.out 0;have BU:=bF Ba.out 1)|((with_reducible refine gC (f:=17) rfl ?_);refine goesL_ (some 10) rfl rfl Try.func17 (by kernel_rfl) rfl #[.slice A0_1 l0_1.length c0_1,.int .i64 a1] rfl (by (try simp only [lM,lC,lN]);first|done|rfl|(simp only [lD,lT];rfl)) ?_;(with_reducible refine (spec_l19Less.calls k _ _ l0_1 a1 t259 _ ?side1 ?side2 A3.out).mono ?_);(case side1=>exact cL (cB HR0_1.out HB.out));(case side2=>exact HC0_1.out);rintro e w31 ⟨v260,rfl,ho0,hb⟩;refine ⟨_,rfl,?_⟩;have n0_:=Am (rW ho0 (bZ (by repeat (first|(with_reducible first|exact HB.out|apply oA|apply pN|apply o1|refine bS ?_ Be.out|refine bS ?_ Bf.out)|exact HB.out))));have n1_:=Am (bX Ba.out hb);have n2_:=Am (bX Bc.out hb);have n3_:=Am (bP (by repeat (first|(with_reducible first|exact HB.out|apply oA|apply pN|apply o1|refine bS ?_ Be.out|refine bS ?_ Bf.out)|exact HB.out)) hb);clear Ba Bc HB;revert n0_ n1_ n2_ n3_;intro Bg Ba Bc HB;(try clear hb);(try clear hb2);(try clear hk);(try clear hi);(try clear ho0);have BV:=cz0 Ba.out;have BW:=cz1 Ba.out;have BX:=bF Ba.out 0;have BY:=bF Ba.out 1)|((with_reducible refine gC (f:=18) rfl ?_);refine goesL_ (some 12) rfl rfl Try.func18 (by kernel_rfl) rfl #[.agg #[.int .i64 a0_0,.slice A0_1 l0_1.length c0_1]] rfl (by (try simp only [lM,lC,lN]);first|done|rfl|(simp only [lD,lT];rfl)) ?_;(with_reducible refine (spec_ClockOk.calls k a0_0 _ _ l0_1 false _ ?side1 ?side2 A4.out).mono ?_);(case side1=>exact cL (cB HR0_1.out HB.out));(case side2=>exact HC0_1.out);rintro e w33 ⟨rfl,hb⟩;refine ⟨_,rfl,?_⟩;have n0_:=Am (rB (rL Bg.out) hb);have n1_:=Am (bX Ba.out hb);have n2_:=Am (bX Bc.out hb);have n3_:=Am (bP (by repeat (first|(with_reducible first|exact HB.out|apply oA|apply pN|apply o1|refine bS ?_ Be.out|refine bS ?_ Bf.out)|exact HB.out)) hb);clear Bg Ba Bc HB;revert n0_ n1_ n2_ n3_;intro Bg Ba Bc HB;(try clear hb);(try clear hb2);(try clear hk);(try clear hi);have BZ:=cz0 Bc.out;have B0:=cz1 Bc.out;have B1:=bF Bc.out 0;have B2:=bF Bc.out 1))
  refine bodyPost_ret (results_ct rfl _ _ Bd 25 #[.int .i64 0,.slice none 0 0] (0,0) _ rfl (by (with_reducible repeat (first|refine bN ?_ _|refine bD ?_|refine bA ?_ _));refine bT (cs:=#[.int .i64 0,.slice none 0 0]) ?_ 1 _ rfl;(with_reducible repeat (first|refine bN ?_ _|refine bD ?_|refine bA ?_ _));refine bT (cs:=#[.int .i64 0,.slice none 0 0]) ?_ 0 _ rfl;(with_reducible repeat (first|refine bN ?_ _|refine bD ?_|refine bA ?_ _));exact Bc.out) Try.underlying25 rfl (by kernel_rfl)) rfl ?_
  exact ⟨_,by first|rfl|(simp [errW_none,errW_some] <;> rfl)|(simp [*,errW_none,errW_some] <;> rfl),by first|exact Kd.R_nil _ _ _ _ _|exact Kd.N_nil _ _ _ _ _|exact Kd.V_nil _ _ _ _ _|exact Kd.Q_nil _ _ _ _ _|exact Kd.S_nil _ _ _ _ _,by repeat (first|(with_reducible first|exact HB.out|apply oA|apply pN|apply o1|refine bS ?_ Be.out|refine bS ?_ Bf.out)|exact HB.out)⟩

 subst c5
 have H1:(if (t259.length:Int)=(l0_1.length:Int) then (some (0,([]:List (S35)),false)) else (some (a0_0,t259,true)))=some (r1,r2,r3):=by rw [if_pos rfl] at H;exact H
 clear H
 have H:=H1
 clear H1
 by_cases c6:(t259.length:Int)=(l0_1.length:Int)
 ·rw [if_pos c6] at H
  have c6b0:((t259.length:Int) == (l0_1.length:Int))=true:=beq_iff_eq.mpr c6
  have c6b1:((t259.length:Int) != (l0_1.length:Int))=false:=bne_eq_false_iff_eq.mpr c6
  have c6b2:(t259.length == l0_1.length)=true:=by first|simpa using c6|(simp at c6 ⊢;omega)
  clear c6
  simp only [Option.some.injEq,Prod.mk.injEq] at H
  obtain ⟨rfl,rfl,rfl⟩:=H
  go_enter Try.func6,Try.ntmps6
  go_wp2_with (first|((with_reducible refine gD (N:=2) rfl ?_);(try (refine gate_guard (by rfl) ?_;dsimp only));refine bI ?hg (N:=2) ?hd (cs:=#[.int .i64 a0_0,.slice A0_1 l0_1.length c0_1]) (t:=25) ?hr ?_;(case hd=>rfl);(case hg=>rfl);(case hr=>first|(go_simp;done)|(go_simp;rfl));intro Bb hg w7 hbox hb;have n0_:=Am (bP (by repeat (first|(with_reducible first|exact HB.out|apply oA|apply pN|apply o1)|exact HB.out)) hb);have n1_:=Am (hbox);have n2_:=Am ((by rw [hg];exact (bZ (by repeat (first|(with_reducible first|exact HB.out|apply oA|apply pN|apply o1)|exact HB.out))):w.heap.size≤Bb));have n3_:=Am ((by rw [hg];exact (bZ (by repeat (first|(with_reducible first|exact HB.out|apply oA|apply pN|apply o1)|exact HB.out))):w.heap.size≤Bb));clear HB;revert n0_ n1_ n2_ n3_;intro HB Ba Bj Be;clear hb hbox hg)|((with_reducible refine gD (N:=4) rfl ?_);(try (refine gate_guard (by rfl) ?_;dsimp only));refine bI ?hg (N:=4) ?hd (cs:=#[.int .i64 0,.slice none 0 0]) (t:=25) ?hr ?_;(case hd=>rfl);(case hg=>rfl);(case hr=>first|(go_simp;done)|(go_simp;rfl));intro Bd hg w8 hbox hb;have n0_:=Am (bX Ba.out hb);have n1_:=Am (bP (by repeat (first|(with_reducible first|exact HB.out|apply oA|apply pN|apply o1|refine bS ?_ Be.out)|exact HB.out)) hb);have n2_:=Am (hbox);have n3_:=Am ((by rw [hg];exact (bZ (by repeat (first|(with_reducible first|exact HB.out|apply oA|apply pN|apply o1|refine bS ?_ Be.out)|exact HB.out))):w.heap.size≤Bd));have n4_:=Am ((by rw [hg];exact (bZ (by repeat (first|(with_reducible first|exact HB.out|apply oA|apply pN|apply o1|refine bS ?_ Be.out)|exact HB.out))):w.heap.size≤Bd));have n5_:=Am ((nL Ba.out hg));have n6_:=Am ((nG Ba.out hg));clear Ba HB;revert n0_ n1_ n2_ n3_ n4_ n5_ n6_;intro Ba HB Bc Bk Bf Bh Bi;clear hb hbox hg;have B7:=Bh.out;have B8:=Bi.out;have Bl:=cz0 Ba.out;have Bm:=cz1 Ba.out;have Bn:=bF Ba.out 0;have Bo:=bF Ba.out 1)|((with_reducible refine gC (f:=17) rfl ?_);refine goesL_ (some 10) rfl rfl Try.func17 (by kernel_rfl) rfl #[.slice A0_1 l0_1.length c0_1,.int .i64 a1] rfl (by (try simp only [lM,lC,lN]);first|done|rfl|(simp only [lD,lT];rfl)) ?_;(with_reducible refine (spec_l19Less.calls k _ _ l0_1 a1 t259 _ ?side1 ?side2 A3.out).mono ?_);(case side1=>exact cL (cB HR0_1.out HB.out));(case side2=>exact HC0_1.out);rintro e w11 ⟨v260,rfl,ho0,hb⟩;refine ⟨_,rfl,?_⟩;have n0_:=Am (rW ho0 (bZ (by repeat (first|(with_reducible first|exact HB.out|apply oA|apply pN|apply o1|refine bS ?_ Be.out|refine bS ?_ Bf.out)|exact HB.out))));have n1_:=Am (bX Ba.out hb);have n2_:=Am (bX Bc.out hb);have n3_:=Am (bP (by repeat (first|(with_reducible first|exact HB.out|apply oA|apply pN|apply o1|refine bS ?_ Be.out|refine bS ?_ Bf.out)|exact HB.out)) hb);clear Ba Bc HB;revert n0_ n1_ n2_ n3_;intro Bg Ba Bc HB;(try clear hb);(try clear hb2);(try clear hk);(try clear hi);(try clear ho0);have Bp:=cz0 Ba.out;have Bq:=cz1 Ba.out;have Br:=bF Ba.out 0;have Bs:=bF Ba.out 1)|((with_reducible refine gC (f:=18) rfl ?_);refine goesL_ (some 12) rfl rfl Try.func18 (by kernel_rfl) rfl #[.agg #[.int .i64 a0_0,.slice A0_1 l0_1.length c0_1]] rfl (by (try simp only [lM,lC,lN]);first|done|rfl|(simp only [lD,lT];rfl)) ?_;(with_reducible refine (spec_ClockOk.calls k a0_0 _ _ l0_1 true _ ?side1 ?side2 A4.out).mono ?_);(case side1=>exact cL (cB HR0_1.out HB.out));(case side2=>exact HC0_1.out);rintro e w13 ⟨rfl,hb⟩;refine ⟨_,rfl,?_⟩;have n0_:=Am (rB (rL Bg.out) hb);have n1_:=Am (bX Ba.out hb);have n2_:=Am (bX Bc.out hb);have n3_:=Am (bP (by repeat (first|(with_reducible first|exact HB.out|apply oA|apply pN|apply o1|refine bS ?_ Be.out|refine bS ?_ Bf.out)|exact HB.out)) hb);clear Bg Ba Bc HB;revert n0_ n1_ n2_ n3_;intro Bg Ba Bc HB;(try clear hb);(try clear hb2);(try clear hk);(try clear hi);obtain ⟨Ao14,co14,eo14⟩:=rC Bg.out;subst eo14;have Bt:=cz0 Ba.out;have Bu:=cz1 Ba.out;have Bv:=bF Ba.out 0;have Bw:=bF Ba.out 1;have Bx:=cz0 Bc.out;have By:=cz1 Bc.out;have Bz:=bF Bc.out 0;have BA:=bF Bc.out 1))
  refine bodyPost_ret (results_ct rfl _ _ Bd 25 #[.int .i64 0,.slice none 0 0] (0,0) _ rfl (by (with_reducible repeat (first|refine bN ?_ _|refine bD ?_|refine bA ?_ _));refine bT (cs:=#[.int .i64 0,.slice none 0 0]) ?_ 1 _ rfl;(with_reducible repeat (first|refine bN ?_ _|refine bD ?_|refine bA ?_ _));refine bT (cs:=#[.int .i64 0,.slice none 0 0]) ?_ 0 _ rfl;(with_reducible repeat (first|refine bN ?_ _|refine bD ?_|refine bA ?_ _));exact Bc.out) Try.underlying25 rfl (by kernel_rfl)) rfl ?_
  exact ⟨_,by first|rfl|(simp [errW_none,errW_some] <;> rfl)|(simp [*,errW_none,errW_some] <;> rfl),by first|exact Kd.R_nil _ _ _ _ _|exact Kd.N_nil _ _ _ _ _|exact Kd.V_nil _ _ _ _ _|exact Kd.Q_nil _ _ _ _ _|exact Kd.S_nil _ _ _ _ _,by repeat (first|(with_reducible first|exact HB.out|apply oA|apply pN|apply o1|refine bS ?_ Be.out|refine bS ?_ Bf.out)|exact HB.out)⟩
 rw [if_neg c6] at H
 have c6b0:((t259.length:Int) == (l0_1.length:Int))=false:=beq_eq_false_iff_ne.mpr c6
 have c6b1:((t259.length:Int) != (l0_1.length:Int))=true:=bne_iff_ne.mpr c6
 have c6b2:(t259.length == l0_1.length)=false:=by first|simpa using c6|(simp at c6 ⊢;omega)
 simp only [Option.some.injEq,Prod.mk.injEq] at H
 obtain ⟨rfl,rfl,rfl⟩:=H
 go_enter Try.func6,Try.ntmps6
 go_wp2_with (first|((with_reducible refine gD (N:=2) rfl ?_);(try (refine gate_guard (by rfl) ?_;dsimp only));refine bI ?hg (N:=2) ?hd (cs:=#[.int .i64 a0_0,.slice A0_1 l0_1.length c0_1]) (t:=25) ?hr ?_;(case hd=>rfl);(case hg=>rfl);(case hr=>first|(go_simp;done)|(go_simp;rfl));intro Bb hg w17 hbox hb;have n0_:=Am (bP (by repeat (first|(with_reducible first|exact HB.out|apply oA|apply pN|apply o1)|exact HB.out)) hb);have n1_:=Am (hbox);have n2_:=Am ((by rw [hg];exact (bZ (by repeat (first|(with_reducible first|exact HB.out|apply oA|apply pN|apply o1)|exact HB.out))):w.heap.size≤Bb));have n3_:=Am ((by rw [hg];exact (bZ (by repeat (first|(with_reducible first|exact HB.out|apply oA|apply pN|apply o1)|exact HB.out))):w.heap.size≤Bb));clear HB;revert n0_ n1_ n2_ n3_;intro HB Ba Bj Be;clear hb hbox hg)|((with_reducible refine gD (N:=4) rfl ?_);(try (refine gate_guard (by rfl) ?_;dsimp only));refine bI ?hg (N:=4) ?hd (cs:=#[.int .i64 0,.slice none 0 0]) (t:=25) ?hr ?_;(case hd=>rfl);(case hg=>rfl);(case hr=>first|(go_simp;done)|(go_simp;rfl));intro Bd hg w18 hbox hb;have n0_:=Am (bX Ba.out hb);have n1_:=Am (bP (by repeat (first|(with_reducible first|exact HB.out|apply oA|apply pN|apply o1|refine bS ?_ Be.out)|exact HB.out)) hb);have n2_:=Am (hbox);have n3_:=Am ((by rw [hg];exact (bZ (by repeat (first|(with_reducible first|exact HB.out|apply oA|apply pN|apply o1|refine bS ?_ Be.out)|exact HB.out))):w.heap.size≤Bd));have n4_:=Am ((by rw [hg];exact (bZ (by repeat (first|(with_reducible first|exact HB.out|apply oA|apply pN|apply o1|refine bS ?_ Be.out)|exact HB.out))):w.heap.size≤Bd));have n5_:=Am ((nL Ba.out hg));have n6_:=Am ((nG Ba.out hg));clear Ba HB;revert n0_ n1_ n2_ n3_ n4_ n5_ n6_;intro Ba HB Bc Bk Bf Bh Bi;clear hb hbox hg;have B3:=Bh.out;have B4:=Bi.out;have BB:=cz0 Ba.out;have BC:=cz1 Ba.out;have BD:=bF Ba.out 0;have BE:=bF Ba.out 1)|((with_reducible refine gC (f:=17) rfl ?_);refine goesL_ (some 10) rfl rfl Try.func17 (by kernel_rfl) rfl #[.slice A0_1 l0_1.length c0_1,.int .i64 a1] rfl (by (try simp only [lM,lC,lN]);first|done|rfl|(simp only [lD,lT];rfl)) ?_;(with_reducible refine (spec_l19Less.calls k _ _ l0_1 a1 t259 _ ?side1 ?side2 A3.out).mono ?_);(case side1=>exact cL (cB HR0_1.out HB.out));(case side2=>exact HC0_1.out);rintro e w21 ⟨v260,rfl,ho0,hb⟩;refine ⟨_,rfl,?_⟩;have n0_:=Am (rW ho0 (bZ (by repeat (first|(with_reducible first|exact HB.out|apply oA|apply pN|apply o1|refine bS ?_ Be.out|refine bS ?_ Bf.out)|exact HB.out))));have n1_:=Am (bX Ba.out hb);have n2_:=Am (bX Bc.out hb);have n3_:=Am (bP (by repeat (first|(with_reducible first|exact HB.out|apply oA|apply pN|apply o1|refine bS ?_ Be.out|refine bS ?_ Bf.out)|exact HB.out)) hb);clear Ba Bc HB;revert n0_ n1_ n2_ n3_;intro Bg Ba Bc HB;(try clear hb);(try clear hb2);(try clear hk);(try clear hi);(try clear ho0);have BF:=cz0 Ba.out;have BG:=cz1 Ba.out;have BH:=bF Ba.out 0;have BI:=bF Ba.out 1)|((with_reducible refine gC (f:=18) rfl ?_);refine goesL_ (some 12) rfl rfl Try.func18 (by kernel_rfl) rfl #[.agg #[.int .i64 a0_0,.slice A0_1 l0_1.length c0_1]] rfl (by (try simp only [lM,lC,lN]);first|done|rfl|(simp only [lD,lT];rfl)) ?_;(with_reducible refine (spec_ClockOk.calls k a0_0 _ _ l0_1 true _ ?side1 ?side2 A4.out).mono ?_);(case side1=>exact cL (cB HR0_1.out HB.out));(case side2=>exact HC0_1.out);rintro e w23 ⟨rfl,hb⟩;refine ⟨_,rfl,?_⟩;have n0_:=Am (rB (rL Bg.out) hb);have n1_:=Am (bX Ba.out hb);have n2_:=Am (bX Bc.out hb);have n3_:=Am (bP (by repeat (first|(with_reducible first|exact HB.out|apply oA|apply pN|apply o1|refine bS ?_ Be.out|refine bS ?_ Bf.out)|exact HB.out)) hb);clear Bg Ba Bc HB;revert n0_ n1_ n2_ n3_;intro Bg Ba Bc HB;(try clear hb);(try clear hb2);(try clear hk);(try clear hi);obtain ⟨Ao24,co24,eo24⟩:=rC Bg.out;subst eo24;have BJ:=cz0 Ba.out;have BK:=cz1 Ba.out;have BL:=bF Ba.out 0;have BM:=bF Ba.out 1;have BN:=cz0 Bc.out;have BO:=cz1 Bc.out;have BP:=bF Bc.out 0;have BQ:=bF Bc.out 1))
 refine bodyPost_ret (results_ct rfl _ _ Bd 25 #[.int .i64 a0_0,.slice Ao24 t259.length co24] (0,0) _ rfl (by (with_reducible repeat (first|refine bN ?_ _|refine bD ?_|refine bA ?_ _));refine bT (cs:=#[.int .i64 a0_0,.slice none 0 0]) ?_ 1 _ rfl;(with_reducible repeat (first|refine bN ?_ _|refine bD ?_|refine bA ?_ _));refine bT (cs:=#[.int .i64 0,.slice none 0 0]) ?_ 0 _ rfl;(with_reducible repeat (first|refine bN ?_ _|refine bD ?_|refine bA ?_ _));exact Bc.out) Try.underlying25 rfl (by kernel_rfl)) rfl ?_
 exact ⟨_,by first|rfl|(simp [errW_none,errW_some] <;> rfl)|(simp [*,errW_none,errW_some] <;> rfl),by (with_reducible repeat (first|apply rA|apply rN|apply rD));exact rM (rF (p:=⟨Bd,1,none⟩) (rF (p:=⟨Bd,0,none⟩) (rT Bg.out Bc.out (by decide)) (fun _ hk=>hk.2) (.int .i64 a0_0)) (fun _ hk=>hk.2) (.slice Ao24 t259.length co24)) (fun _ hk=>trivial),by repeat (first|(with_reducible first|exact HB.out|apply oA|apply pN|apply o1|refine bS ?_ Be.out|refine bS ?_ Bf.out)|exact HB.out)⟩
end Go.Proofs.Ytpacdakadkblgaa.PFnClockDrop
