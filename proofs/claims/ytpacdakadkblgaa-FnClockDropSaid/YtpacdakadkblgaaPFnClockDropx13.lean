/- Proved here, without a condition beyond those that each theorem states: what the Go functions named below do is what the plain functions of the same names say. Written by xprint.py, a program of this session. -/
import Derived.Test.YtpacdakadkblgaaCS
import Derived.Test.YtpacdakadkblgaaPFnClockDropx0
import Derived.Test.YtpacdakadkblgaaPFnClockDropx2
import Derived.Test.YtpacdakadkblgaaPFnClockDropx3
import Derived.Test.YtpacdakadkblgaaPFnClockDropx6
namespace Go.Proofs.Ytpacdakadkblgaa.PFnClockDrop
open Go.RowKit Go.Proofs.YtpacdakadkblgaaW.PrintWords Go.Proofs.YtpacdakadkblgaaW.PrintLast Go.Proofs.YtpacdakadkblgaaW.PrintMore
attribute [local go_sem] max2_int min2_int max_two min_two max_three min_three max_four min_four   -- for this text's walks alone
set_option linter.unusedVariables false
set_option linter.unusedSimpArgs false

attribute [local go_sem ↓] isSome_setCell_
/-! ### spec_l97Clock: function 12 -/
mutual
def spec_l97Clock.l0 : Nat → Int → List Int → Int → Int → List (S35) → Option (Int × (List (S35)) × Int)
|0, _, _, _, _, _ => none
|k + 1, x5, x1000, x1001, x182000, x182001 => if x5 > 0 then ((spec_l6Rd_pick.f k x1000 x1001 12).bind fun bt184 => ((spec_l6Rd_pick.f k x1000 bt184.2 60).bind fun bt186 => ((spec_l6Rd_pick.f k x1000 bt186.2 3).bind fun bt188 => ((spec_l6Rd_pick.f k x1000 bt188.2 40).bind fun bt190 => ((spec_ClockSet.f k x182000 x182001 bt184.1 (wrap64 (1 + bt186.1)) (wrap64 (bt188.1 * bt190.1))).bind fun bt192 => (if bt192.2.2 = true then (spec_l97Clock.j1 k x5 x1000 bt190.2 bt192.1 bt192.2.1) else (spec_l97Clock.j1 k x5 x1000 bt190.2 x182000 x182001))))))) else ((spec_l6Rd_pick.f k x1000 x1001 24).bind fun bt211 => (if bt211.1 = 0 then ((some (([(-1), 4095, 4096, wrap64 (x182000 + 9)] : List Int) : List Int)).bind fun y213 => ((spec_l6Rd_pick.f k x1000 bt211.2 4).bind fun bt216 => (if 0 ≤ bt216.1 then (if bt216.1 < (y213.length : Int) then (some (rd y213 bt216.1, x182001, bt216.2)) else (none)) else (none)))) else (if bt211.1 = 1 then ((spec_l6Rd_pick.f k x1000 bt211.2 101).bind fun bt219 => ((some (([0, 4095, 4096] : List Int) : List Int)).bind fun y221 => ((spec_l6Rd_pick.f k x1000 bt219.2 3).bind fun bt224 => (if 0 ≤ bt224.1 then (if bt224.1 < (y221.length : Int) then ((spec_l6Rd_pick.f k x1000 bt224.2 101).bind fun bt227 => (if x182001.length < 5864062014805 then (some (x182000, (x182001 ++ [(⟨bt219.1, rd y221 bt224.1, bt227.1⟩ : S35)]), bt227.2)) else (none))) else (none)) else (none))))) else (some (x182000, x182001, bt211.2)))))
def spec_l97Clock.j1 : Nat → Int → List Int → Int → Int → List (S35) → Option (Int × (List (S35)) × Int)
|0, _, _, _, _, _ => none
|k + 1, x5, x1000, x1001, x182000, x182001 => (spec_l6Rd_pick.f k x1000 x1001 4).bind fun bt198 => (if bt198.1 = 0 then ((spec_l6Rd_pick.f k x1000 bt198.2 20).bind fun bt200 => ((spec_ClockTick.f k x182000 x182001 bt200.1).bind fun bt202 => (if bt202.2.2.2 = true then (spec_l97Clock.l0 k (wrap64 (x5 - 1)) x1000 bt200.2 bt202.1 bt202.2.1) else (spec_l97Clock.l0 k (wrap64 (x5 - 1)) x1000 bt200.2 x182000 x182001)))) else (spec_l97Clock.l0 k (wrap64 (x5 - 1)) x1000 bt198.2 x182000 x182001))
end
def spec_l97Clock.f (k : Nat) (s0_0 : List Int) (s0_1 : Int) : Option (Int × (List (S35)) × Int) := (some (([0, 100, 4000, 4090] : List Int) : List Int)).bind fun y170 => ((spec_l6Rd_pick.f k s0_0 s0_1 4).bind fun bt173 => (if 0 ≤ bt173.1 then (if bt173.1 < (y170.length : Int) then ((spec_ClockNew.f (rd y170 bt173.1)).bind fun bt176 => ((spec_l6Rd_pick.f k s0_0 bt173.2 14).bind fun bt182 => (spec_l97Clock.l0 k bt182.1 s0_0 bt182.2 bt176.1 bt176.2.1))) else (none)) else (none)))
theorem spec_l97Clock.mono_l : ∀ k, (∀ y0 y1 y2 y3 y4, LeO (spec_l97Clock.l0 k y0 y1 y2 y3 y4) (spec_l97Clock.l0 (k + 1) y0 y1 y2 y3 y4)) ∧ (∀ y0 y1 y2 y3 y4, LeO (spec_l97Clock.j1 k y0 y1 y2 y3 y4) (spec_l97Clock.j1 (k + 1) y0 y1 y2 y3 y4))
|0 => ⟨fun _ _ _ _ _ r h => by simp [spec_l97Clock.l0] at h, fun _ _ _ _ _ r h => by simp [spec_l97Clock.j1] at h⟩
|k + 1 => by
  obtain ⟨ih0, ih1⟩ := spec_l97Clock.mono_l k
  refine ⟨?_, ?_⟩
  ·intro y0 y1 y2 y3 y4
   unfold spec_l97Clock.l0
   repeat' first
  |(with_reducible exact ih0 _ _ _ _ _)
  |(with_reducible exact ih1 _ _ _ _ _)
  |(with_reducible exact spec_ClockSet.mono _ _ _ _ _ _)
  |(with_reducible exact spec_ClockTick.mono _ _ _ _)
  |(with_reducible exact spec_l6Rd_pick.mono _ _ _ _)
  |(with_reducible exact LeO.refl _)
  |(with_reducible exact LeO.none _)
  |(with_reducible refine LeO.ite ?_ ?_)
  |(with_reducible refine LeO.bind ?_ (fun _ => ?_))
  |exact ih0 _ _ _ _ _
  |exact ih1 _ _ _ _ _
  |exact spec_ClockSet.mono _ _ _ _ _ _
  |exact spec_ClockTick.mono _ _ _ _
  |exact spec_l6Rd_pick.mono _ _ _ _
  |exact LeO.none _
  |refine LeO.ite ?_ ?_
  |refine LeO.bind ?_ (fun _ => ?_)
  ·intro y0 y1 y2 y3 y4
   unfold spec_l97Clock.j1
   repeat' first
  |(with_reducible exact ih0 _ _ _ _ _)
  |(with_reducible exact ih1 _ _ _ _ _)
  |(with_reducible exact spec_ClockSet.mono _ _ _ _ _ _)
  |(with_reducible exact spec_ClockTick.mono _ _ _ _)
  |(with_reducible exact spec_l6Rd_pick.mono _ _ _ _)
  |(with_reducible exact LeO.refl _)
  |(with_reducible exact LeO.none _)
  |(with_reducible refine LeO.ite ?_ ?_)
  |(with_reducible refine LeO.bind ?_ (fun _ => ?_))
  |exact ih0 _ _ _ _ _
  |exact ih1 _ _ _ _ _
  |exact spec_ClockSet.mono _ _ _ _ _ _
  |exact spec_ClockTick.mono _ _ _ _
  |exact spec_l6Rd_pick.mono _ _ _ _
  |exact LeO.none _
  |refine LeO.ite ?_ ?_
  |refine LeO.bind ?_ (fun _ => ?_)
theorem spec_l97Clock.mono : ∀ a0 a1 k, LeO (spec_l97Clock.f k a0 a1) (spec_l97Clock.f (k + 1) a0 a1) := by
 intro a0 a1 k
 obtain ⟨ih0, ih1⟩ := spec_l97Clock.mono_l k
 unfold spec_l97Clock.f
 repeat' first
  |(with_reducible exact ih0 _ _ _ _ _)
  |(with_reducible exact ih1 _ _ _ _ _)
  |(with_reducible exact spec_ClockSet.mono _ _ _ _ _ _)
  |(with_reducible exact spec_ClockTick.mono _ _ _ _)
  |(with_reducible exact spec_l6Rd_pick.mono _ _ _ _)
  |(with_reducible exact LeO.refl _)
  |(with_reducible exact LeO.none _)
  |(with_reducible refine LeO.ite ?_ ?_)
  |(with_reducible refine LeO.bind ?_ (fun _ => ?_))
  |exact ih0 _ _ _ _ _
  |exact ih1 _ _ _ _ _
  |exact spec_ClockSet.mono _ _ _ _ _ _
  |exact spec_ClockTick.mono _ _ _ _
  |exact spec_l6Rd_pick.mono _ _ _ _
  |exact LeO.none _
  |refine LeO.ite ?_ ?_
  |refine LeO.bind ?_ (fun _ => ?_)
def spec_l97Clock.T5 : Bool × List (List Nat × List Nat) := (true, [([], []), ([], []), ([1], [1]), ([], []), ([3, 2], [3]), ([4], [4]), ([], []), ([6, 4], [6]), ([], []), ([8, 7], [8]), ([7, 9], [7, 9]), ([0, 2, 5, 10, 9], [0, 2, 5, 10]), ([11], [11]), ([12], [12]), ([12], [12]), ([], []), ([15, 13, 11, 0, 1, 2, 3, 4, 5, 6, 7, 8, 9, 10, 11, 12, 13, 15], [13, 15]), ([14, 16, 0, 1, 2, 3, 4, 5, 6, 7, 8, 9, 10, 11, 12, 13, 14, 15, 16], [14])])
def spec_l97Clock.B5 : List Nat := [0, 0, 2, 0, 14, 30, 0, 94, 0, 478, 990, 2047, 4095, 8191, 8191, 0, 49151, 131071]
theorem spec_l97Clock.tab5 : rtab .any (opsOf Try.f12 5) = spec_l97Clock.T5 := by kernel_rfl
theorem spec_l97Clock.bits5 : waitsOk spec_l97Clock.T5.2 spec_l97Clock.B5 = true := by kernel_rfl
def spec_l97Clock.T9 : Bool × List (List Nat × List Nat) := (true, [([], []), ([], []), ([1], [1]), ([0, 2, 2], [0, 2]), ([3], [3]), ([4], [4]), ([4], [4]), ([4], [4]), ([], []), ([8, 5, 3, 0, 1, 2, 3, 4, 5, 8], [5, 8]), ([6, 9, 0, 1, 2, 3, 4, 5, 6, 8, 9], [6]), ([7, 10, 0, 1, 2, 3, 4, 5, 6, 7, 8, 9, 10], [7])])
def spec_l97Clock.B9 : List Nat := [0, 0, 2, 7, 15, 31, 31, 31, 0, 319, 895, 2047]
theorem spec_l97Clock.tab9 : rtab .any (opsOf Try.f12 9) = spec_l97Clock.T9 := by kernel_rfl
theorem spec_l97Clock.bits9 : waitsOk spec_l97Clock.T9.2 spec_l97Clock.B9 = true := by kernel_rfl
def spec_l97Clock.T14 : Bool × List (List Nat × List Nat) := (true, [([], []), ([0], [0]), ([1], [1]), ([2], [2]), ([], []), ([4], [4]), ([3, 5], [3, 5]), ([6], [6]), ([0, 1, 2, 3, 4, 5, 6, 7], []), ([8, 7, 5, 0, 1, 2, 3, 4, 5, 6, 7], [7, 8])])
def spec_l97Clock.B14 : List Nat := [0, 1, 3, 7, 0, 16, 63, 127, 255, 511]
theorem spec_l97Clock.tab14 : rtab .any (opsOf Try.f12 14) = spec_l97Clock.T14 := by kernel_rfl
theorem spec_l97Clock.bits14 : waitsOk spec_l97Clock.T14.2 spec_l97Clock.B14 = true := by kernel_rfl
def spec_l97Clock.T16 : Bool × List (List Nat × List Nat) := (true, [([], []), ([0], [0]), ([], []), ([2], [2]), ([], []), ([], []), ([5, 3], [5]), ([4, 6], [4, 6]), ([7], [7]), ([], []), ([9, 6], [9]), ([3, 8, 10], [3, 8, 10]), ([11], [11]), ([1, 12, 10], [1, 12]), ([0, 1, 2, 3, 4, 5, 6, 7, 8, 9, 10, 11, 12, 13], []), ([14, 13, 13, 0, 1, 2, 3, 4, 5, 6, 7, 8, 9, 10, 11, 12, 13], [13, 14])])
def spec_l97Clock.B16 : List Nat := [0, 1, 0, 4, 0, 0, 44, 124, 252, 0, 620, 2044, 4092, 8191, 16383, 32767]
theorem spec_l97Clock.tab16 : rtab .any (opsOf Try.f12 16) = spec_l97Clock.T16 := by kernel_rfl
theorem spec_l97Clock.bits16 : waitsOk spec_l97Clock.T16.2 spec_l97Clock.B16 = true := by kernel_rfl
abbrev z12q0 : Array Bool := bQ 18 0
abbrev z12q1 : Array Bool := bQ 18 2
abbrev z12q2 : Array Bool := bQ 18 10
abbrev z12q3 : Array Bool := bQ 18 74
abbrev z12q4 : Array Bool := bQ 18 330
abbrev z12q5 : Array Bool := bQ 18 331
abbrev z12q6 : Array Bool := bQ 18 65535
abbrev z12q7 : Array Bool := bQ 18 32767
abbrev z12q8 : Array Bool := bQ 18 34815
abbrev z12q9 : Array Bool := bQ 18 2047
abbrev z12q10 : Array Bool := bQ 18 33279
abbrev z12q11 : Array Bool := bQ 18 511
abbrev z12q12 : Array Bool := bQ 18 33151
abbrev z12q13 : Array Bool := bQ 18 383
abbrev z12q14 : Array Bool := bQ 18 33103
abbrev z12q15 : Array Bool := bQ 18 335
abbrev z12q16 : Array Bool := bQ 18 33099
abbrev z12q17 : Array Bool := bQ 18 351
abbrev z12q18 : Array Bool := bQ 18 33119
abbrev z12q19 : Array Bool := bQ 18 1023
abbrev z12q20 : Array Bool := bQ 18 33791
abbrev z12q21 : Array Bool := bQ 18 4095
abbrev z12q22 : Array Bool := bQ 18 8191
abbrev z12q23 : Array Bool := bQ 18 16383
abbrev z12q24 : Array Bool := bQ 18 36863
abbrev z12q25 : Array Bool := bQ 18 40959
abbrev z12q26 : Array Bool := bQ 18 49151
abbrev z12q27 : Array Bool := bQ 18 131071
abbrev z12q28 : Array Bool := bQ 18 262143
abbrev z12q29 : Array Bool := bQ 12 0
abbrev z12q30 : Array Bool := bQ 12 2
abbrev z12q31 : Array Bool := bQ 12 3
abbrev z12q32 : Array Bool := bQ 12 511
abbrev z12q33 : Array Bool := bQ 12 7
abbrev z12q34 : Array Bool := bQ 12 259
abbrev z12q35 : Array Bool := bQ 12 15
abbrev z12q36 : Array Bool := bQ 12 263
abbrev z12q37 : Array Bool := bQ 12 31
abbrev z12q38 : Array Bool := bQ 12 63
abbrev z12q39 : Array Bool := bQ 12 127
abbrev z12q40 : Array Bool := bQ 12 255
abbrev z12q41 : Array Bool := bQ 12 271
abbrev z12q42 : Array Bool := bQ 12 287
abbrev z12q43 : Array Bool := bQ 12 319
abbrev z12q44 : Array Bool := bQ 12 383
abbrev z12q45 : Array Bool := bQ 12 1023
abbrev z12q46 : Array Bool := bQ 12 2047
abbrev z12q47 : Array Bool := bQ 12 4095
abbrev z12q48 : Array Bool := bQ 10 0
abbrev z12q49 : Array Bool := bQ 10 1
abbrev z12q50 : Array Bool := bQ 10 17
abbrev z12q51 : Array Bool := bQ 10 19
abbrev z12q52 : Array Bool := bQ 10 23
abbrev z12q53 : Array Bool := bQ 10 63
abbrev z12q54 : Array Bool := bQ 10 31
abbrev z12q55 : Array Bool := bQ 10 55
abbrev z12q56 : Array Bool := bQ 10 127
abbrev z12q57 : Array Bool := bQ 10 255
abbrev z12q58 : Array Bool := bQ 10 511
abbrev z12q59 : Array Bool := bQ 10 1023
abbrev z12q60 : Array Bool := bQ 16 0
abbrev z12q61 : Array Bool := bQ 16 1
abbrev z12q62 : Array Bool := bQ 16 5
abbrev z12q63 : Array Bool := bQ 16 37
abbrev z12q64 : Array Bool := bQ 16 549
abbrev z12q65 : Array Bool := bQ 16 551
abbrev z12q66 : Array Bool := bQ 16 2047
abbrev z12q67 : Array Bool := bQ 16 1023
abbrev z12q68 : Array Bool := bQ 16 1791
abbrev z12q69 : Array Bool := bQ 16 767
abbrev z12q70 : Array Bool := bQ 16 1647
abbrev z12q71 : Array Bool := bQ 16 575
abbrev z12q72 : Array Bool := bQ 16 623
abbrev z12q73 : Array Bool := bQ 16 559
abbrev z12q74 : Array Bool := bQ 16 567
abbrev z12q75 : Array Bool := bQ 16 639
abbrev z12q76 : Array Bool := bQ 16 1663
abbrev z12q77 : Array Bool := bQ 16 4095
abbrev z12q78 : Array Bool := bQ 16 8191
abbrev z12q79 : Array Bool := bQ 16 16383
abbrev z12q80 : Array Bool := bQ 16 32767
abbrev z12q81 : Array Bool := bQ 16 65535
abbrev qsF:=@IsS51.far
abbrev qkF:=@keep_far
abbrev qsS:=@IsS51.set_1
abbrev qsN:=@IsS51.drewN
abbrev qsA:=@IsS51.alloc
abbrev qsD:=@IsS51.drew
abbrev qkN:=@keep_drewN
abbrev qkA:=@keep_alloc
abbrev qkD:=@keep_drew
abbrev qsG:=@IsS51.ge
abbrev qkS:=@KeepBut.set_
abbrev qkB:=@KeepBut.blk
end Go.Proofs.Ytpacdakadkblgaa.PFnClockDrop
