/- Proved here, without a condition beyond those that each theorem states: what the Go functions named below do is what the plain functions of the same names say. Written by xprint.py, a program of this session. -/
import Derived.Test.YtfhcgmfodfcpeaaPFnQueueLessx0
import Derived.Test.YtfhcgmfodfcpeaaPFnQueueLessx4
import Derived.Test.YtfhcgmfodfcpeaaPFnQueueLessx5
import Derived.Test.YtfhcgmfodfcpeaaPFnQueueLessx6
import Derived.Test.YtfhcgmfodfcpeaaPFnQueueLessx8
import Derived.Test.YtfhcgmfodfcpeaaPFnQueueLessx9
namespace Go.Proofs.Ytfhcgmfodfcpeaa.PFnQueueLess
open Go.RowKit Go.Proofs.YtfhcgmfodfcpeaaW.PrintWords Go.Proofs.YtfhcgmfodfcpeaaW.PrintLast Go.Proofs.YtfhcgmfodfcpeaaW.PrintMore
attribute [local go_sem] max2_int min2_int max_two min_two max_three min_three max_four min_four   -- for this text's walks alone
set_option linter.unusedVariables false
set_option linter.unusedSimpArgs false

attribute [local go_sem ↓] isSome_setCell_
/-! ### spec_l92Queue: function 34 -/
mutual
def spec_l92Queue.l0 : Nat → Int → List Int → Int → List (S40) → Int → Option ((List (S40)) × Int × Int)
|0, _, _, _, _, _ => none
|k + 1, x4, x1000, x1001, x179000, x179001 => if x4 > 0 then ((spec_l6Rd_pick.f k x1000 x1001 8).bind fun bt181 => ((spec_l11At.f k x179000 x179001 bt181.1).bind fun t183 => (if t183 < 0 then ((spec_l6Rd_pick.f k x1000 bt181.2 6).bind fun bt184 => ((spec_l11Add.f k x179000 x179001 bt181.1 (wrap64 (1 + bt184.1)) x179001 true).bind fun bt186 => (spec_l92Queue.j1 k x4 x1000 bt184.2 bt186.1 bt186.2))) else (spec_l92Queue.j1 k x4 x1000 bt181.2 x179000 x179001)))) else ((spec_l6Rd_pick.f k x1000 x1001 24).bind fun bt208 => (if bt208.1 = 0 then ((some (([(-1), wrap64 (x179001 + 30), 1000000, 1000001] : List Int) : List Int)).bind fun y210 => ((spec_l6Rd_pick.f k x1000 bt208.2 4).bind fun bt213 => (if 0 ≤ bt213.1 then (if bt213.1 < (y210.length : Int) then (some (x179000, rd y210 bt213.1, bt213.2)) else (none)) else (none)))) else (if bt208.1 = 1 then ((spec_l6Rd_pick.f k x1000 bt208.2 101).bind fun bt216 => ((spec_l6Rd_pick.f k x1000 bt216.2 8).bind fun bt218 => ((some (([0, 1000000, 999990] : List Int) : List Int)).bind fun y220 => ((spec_l6Rd_pick.f k x1000 bt218.2 3).bind fun bt223 => (if 0 ≤ bt223.1 then (if bt223.1 < (y220.length : Int) then (if x179000.length < 4398046511104 then (some ((x179000 ++ [(⟨bt216.1, bt218.1, rd y220 bt223.1, true⟩ : S40)]), x179001, bt223.2)) else (none)) else (none)) else (none)))))) else (some (x179000, x179001, bt208.2)))))
def spec_l92Queue.j1 : Nat → Int → List Int → Int → List (S40) → Int → Option ((List (S40)) × Int × Int)
|0, _, _, _, _, _ => none
|k + 1, x4, x1000, x1001, x179000, x179001 => (spec_l6Rd_pick.f k x1000 x1001 9).bind fun bt190 => (spec_l92Queue.l1 k x4 bt190.1 x1000 bt190.2 x179000 x179001)
def spec_l92Queue.l1 : Nat → Int → Int → List Int → Int → List (S40) → Int → Option ((List (S40)) × Int × Int)
|0, _, _, _, _, _, _ => none
|k + 1, x4, x6, x1000, x1001, x179000, x179001 => if x6 > 0 then ((spec_l11Tick.f k x179000 x179001).bind fun bt192 => (spec_l92Queue.l1 k x4 (wrap64 (x6 - 1)) x1000 x1001 bt192.1 bt192.2.1)) else (if (x179000.length : Int) > 0 then ((spec_l6Rd_pick.f k x1000 x1001 3).bind fun bt197 => (spec_l92Queue.j3 k x4 (bt197.1 == 0) x1000 bt197.2 x179000 x179001)) else (spec_l92Queue.j3 k x4 false x1000 x1001 x179000 x179001))
def spec_l92Queue.j3 : Nat → Int → Bool → List Int → Int → List (S40) → Int → Option ((List (S40)) × Int × Int)
|0, _, _, _, _, _, _ => none
|k + 1, x4, x50, x1000, x1001, x179000, x179001 => if x50 = true then ((spec_l6Rd_pick.f k x1000 x1001 (x179000.length : Int)).bind fun bt199 => (if 0 ≤ bt199.1 then (if bt199.1 < (x179000.length : Int) then ((some (x179000.set (bt199.1 : Int).toNat (⟨(rd_T40 x179000 bt199.1).f0, (rd_T40 x179000 bt199.1).f1, (rd_T40 x179000 bt199.1).f2, false⟩ : S40) : List (S40))).bind fun y201 => ((spec_l6Rd_pick.f k x1000 bt199.2 2).bind fun bt202 => (if bt202.1 = 0 then ((spec_l11Wake.f y201 x179001 bt199.1).bind fun bt204 => (spec_l92Queue.l0 k (wrap64 (x4 - 1)) x1000 bt202.2 bt204.1 bt204.2)) else (spec_l92Queue.l0 k (wrap64 (x4 - 1)) x1000 bt202.2 y201 x179001)))) else (none)) else (none))) else (spec_l92Queue.l0 k (wrap64 (x4 - 1)) x1000 x1001 x179000 x179001)
end
def spec_l92Queue.f (k : Nat) (s0_0 : List Int) (s0_1 : Int) : Option ((List (S40)) × Int × Int) := (spec_l6Rd_pick.f k s0_0 s0_1 6).bind fun bt179 => (spec_l92Queue.l0 k bt179.1 s0_0 bt179.2 (([] : List (S40))) 0)
theorem spec_l92Queue.mono_l : ∀ k, (∀ y0 y1 y2 y3 y4, LeO (spec_l92Queue.l0 k y0 y1 y2 y3 y4) (spec_l92Queue.l0 (k + 1) y0 y1 y2 y3 y4)) ∧ (∀ y0 y1 y2 y3 y4, LeO (spec_l92Queue.j1 k y0 y1 y2 y3 y4) (spec_l92Queue.j1 (k + 1) y0 y1 y2 y3 y4)) ∧ (∀ y0 y1 y2 y3 y4 y5, LeO (spec_l92Queue.l1 k y0 y1 y2 y3 y4 y5) (spec_l92Queue.l1 (k + 1) y0 y1 y2 y3 y4 y5)) ∧ (∀ y0 y1 y2 y3 y4 y5, LeO (spec_l92Queue.j3 k y0 y1 y2 y3 y4 y5) (spec_l92Queue.j3 (k + 1) y0 y1 y2 y3 y4 y5))
|0 => ⟨fun _ _ _ _ _ r h => by simp [spec_l92Queue.l0] at h, fun _ _ _ _ _ r h => by simp [spec_l92Queue.j1] at h, fun _ _ _ _ _ _ r h => by simp [spec_l92Queue.l1] at h, fun _ _ _ _ _ _ r h => by simp [spec_l92Queue.j3] at h⟩
|k + 1 => by
  obtain ⟨ih0, ih1, ih2, ih3⟩ := spec_l92Queue.mono_l k
  refine ⟨?_, ?_, ?_, ?_⟩
  ·intro y0 y1 y2 y3 y4
   unfold spec_l92Queue.l0
   repeat' first
  |(with_reducible exact ih0 _ _ _ _ _)
  |(with_reducible exact ih1 _ _ _ _ _)
  |(with_reducible exact ih2 _ _ _ _ _ _)
  |(with_reducible exact ih3 _ _ _ _ _ _)
  |(with_reducible exact spec_l11Add.mono _ _ _ _ _ _ _)
  |(with_reducible exact spec_l11At.mono _ _ _ _)
  |(with_reducible exact spec_l11Tick.mono _ _ _)
  |(with_reducible exact spec_l6Rd_pick.mono _ _ _ _)
  |(with_reducible exact LeO.refl _)
  |(with_reducible exact LeO.none _)
  |(with_reducible refine LeO.ite ?_ ?_)
  |(with_reducible refine LeO.bind ?_ (fun _ => ?_))
  |exact ih0 _ _ _ _ _
  |exact ih1 _ _ _ _ _
  |exact ih2 _ _ _ _ _ _
  |exact ih3 _ _ _ _ _ _
  |exact spec_l11Add.mono _ _ _ _ _ _ _
  |exact spec_l11At.mono _ _ _ _
  |exact spec_l11Tick.mono _ _ _
  |exact spec_l6Rd_pick.mono _ _ _ _
  |exact LeO.none _
  |refine LeO.ite ?_ ?_
  |refine LeO.bind ?_ (fun _ => ?_)
  ·intro y0 y1 y2 y3 y4
   unfold spec_l92Queue.j1
   repeat' first
  |(with_reducible exact ih0 _ _ _ _ _)
  |(with_reducible exact ih1 _ _ _ _ _)
  |(with_reducible exact ih2 _ _ _ _ _ _)
  |(with_reducible exact ih3 _ _ _ _ _ _)
  |(with_reducible exact spec_l11Add.mono _ _ _ _ _ _ _)
  |(with_reducible exact spec_l11At.mono _ _ _ _)
  |(with_reducible exact spec_l11Tick.mono _ _ _)
  |(with_reducible exact spec_l6Rd_pick.mono _ _ _ _)
  |(with_reducible exact LeO.refl _)
  |(with_reducible exact LeO.none _)
  |(with_reducible refine LeO.ite ?_ ?_)
  |(with_reducible refine LeO.bind ?_ (fun _ => ?_))
  |exact ih0 _ _ _ _ _
  |exact ih1 _ _ _ _ _
  |exact ih2 _ _ _ _ _ _
  |exact ih3 _ _ _ _ _ _
  |exact spec_l11Add.mono _ _ _ _ _ _ _
  |exact spec_l11At.mono _ _ _ _
  |exact spec_l11Tick.mono _ _ _
  |exact spec_l6Rd_pick.mono _ _ _ _
  |exact LeO.none _
  |refine LeO.ite ?_ ?_
  |refine LeO.bind ?_ (fun _ => ?_)
  ·intro y0 y1 y2 y3 y4 y5
   unfold spec_l92Queue.l1
   repeat' first
  |(with_reducible exact ih0 _ _ _ _ _)
  |(with_reducible exact ih1 _ _ _ _ _)
  |(with_reducible exact ih2 _ _ _ _ _ _)
  |(with_reducible exact ih3 _ _ _ _ _ _)
  |(with_reducible exact spec_l11Add.mono _ _ _ _ _ _ _)
  |(with_reducible exact spec_l11At.mono _ _ _ _)
  |(with_reducible exact spec_l11Tick.mono _ _ _)
  |(with_reducible exact spec_l6Rd_pick.mono _ _ _ _)
  |(with_reducible exact LeO.refl _)
  |(with_reducible exact LeO.none _)
  |(with_reducible refine LeO.ite ?_ ?_)
  |(with_reducible refine LeO.bind ?_ (fun _ => ?_))
  |exact ih0 _ _ _ _ _
  |exact ih1 _ _ _ _ _
  |exact ih2 _ _ _ _ _ _
  |exact ih3 _ _ _ _ _ _
  |exact spec_l11Add.mono _ _ _ _ _ _ _
  |exact spec_l11At.mono _ _ _ _
  |exact spec_l11Tick.mono _ _ _
  |exact spec_l6Rd_pick.mono _ _ _ _
  |exact LeO.none _
  |refine LeO.ite ?_ ?_
  |refine LeO.bind ?_ (fun _ => ?_)
  ·intro y0 y1 y2 y3 y4 y5
   unfold spec_l92Queue.j3
   repeat' first
  |(with_reducible exact ih0 _ _ _ _ _)
  |(with_reducible exact ih1 _ _ _ _ _)
  |(with_reducible exact ih2 _ _ _ _ _ _)
  |(with_reducible exact ih3 _ _ _ _ _ _)
  |(with_reducible exact spec_l11Add.mono _ _ _ _ _ _ _)
  |(with_reducible exact spec_l11At.mono _ _ _ _)
  |(with_reducible exact spec_l11Tick.mono _ _ _)
  |(with_reducible exact spec_l6Rd_pick.mono _ _ _ _)
  |(with_reducible exact LeO.refl _)
  |(with_reducible exact LeO.none _)
  |(with_reducible refine LeO.ite ?_ ?_)
  |(with_reducible refine LeO.bind ?_ (fun _ => ?_))
  |exact ih0 _ _ _ _ _
  |exact ih1 _ _ _ _ _
  |exact ih2 _ _ _ _ _ _
  |exact ih3 _ _ _ _ _ _
  |exact spec_l11Add.mono _ _ _ _ _ _ _
  |exact spec_l11At.mono _ _ _ _
  |exact spec_l11Tick.mono _ _ _
  |exact spec_l6Rd_pick.mono _ _ _ _
  |exact LeO.none _
  |refine LeO.ite ?_ ?_
  |refine LeO.bind ?_ (fun _ => ?_)
theorem spec_l92Queue.mono : ∀ a0 a1 k, LeO (spec_l92Queue.f k a0 a1) (spec_l92Queue.f (k + 1) a0 a1) := by
 intro a0 a1 k
 obtain ⟨ih0, ih1, ih2, ih3⟩ := spec_l92Queue.mono_l k
 unfold spec_l92Queue.f
 repeat' first
  |(with_reducible exact ih0 _ _ _ _ _)
  |(with_reducible exact ih1 _ _ _ _ _)
  |(with_reducible exact ih2 _ _ _ _ _ _)
  |(with_reducible exact ih3 _ _ _ _ _ _)
  |(with_reducible exact spec_l11Add.mono _ _ _ _ _ _ _)
  |(with_reducible exact spec_l11At.mono _ _ _ _)
  |(with_reducible exact spec_l11Tick.mono _ _ _)
  |(with_reducible exact spec_l6Rd_pick.mono _ _ _ _)
  |(with_reducible exact LeO.refl _)
  |(with_reducible exact LeO.none _)
  |(with_reducible refine LeO.ite ?_ ?_)
  |(with_reducible refine LeO.bind ?_ (fun _ => ?_))
  |exact ih0 _ _ _ _ _
  |exact ih1 _ _ _ _ _
  |exact ih2 _ _ _ _ _ _
  |exact ih3 _ _ _ _ _ _
  |exact spec_l11Add.mono _ _ _ _ _ _ _
  |exact spec_l11At.mono _ _ _ _
  |exact spec_l11Tick.mono _ _ _
  |exact spec_l6Rd_pick.mono _ _ _ _
  |exact LeO.none _
  |refine LeO.ite ?_ ?_
  |refine LeO.bind ?_ (fun _ => ?_)
def spec_l92Queue.T7 : Bool × List (List Nat × List Nat) := (true, [([], []), ([], []), ([], []), ([2], [2]), ([3], [3]), ([], []), ([5], [5]), ([1, 4, 6], [1, 4, 6]), ([0, 7, 3], [0, 7]), ([8, 8, 0, 1, 2, 3, 4, 5, 6, 7, 8], [8])])
def spec_l92Queue.B7 : List Nat := [0, 0, 0, 4, 12, 0, 32, 126, 255, 511]
theorem spec_l92Queue.tab7 : rtab .any (opsOf Try.f34 7) = spec_l92Queue.T7 := by kernel_rfl
theorem spec_l92Queue.bits7 : waitsOk spec_l92Queue.T7.2 spec_l92Queue.B7 = true := by kernel_rfl
def spec_l92Queue.T19 : Bool × List (List Nat × List Nat) := (true, [([], []), ([0], [0]), ([1], [1]), ([2], [2]), ([], []), ([4], [4]), ([3, 5], [3, 5]), ([6], [6]), ([0, 1, 2, 3, 4, 5, 6, 7], []), ([8, 7, 5, 0, 1, 2, 3, 4, 5, 6, 7], [7, 8])])
def spec_l92Queue.B19 : List Nat := [0, 1, 3, 7, 0, 16, 63, 127, 255, 511]
theorem spec_l92Queue.tab19 : rtab .any (opsOf Try.f34 19) = spec_l92Queue.T19 := by kernel_rfl
theorem spec_l92Queue.bits19 : waitsOk spec_l92Queue.T19.2 spec_l92Queue.B19 = true := by kernel_rfl
def spec_l92Queue.T21 : Bool × List (List Nat × List Nat) := (true, [([], []), ([0], [0]), ([], []), ([2], [2]), ([], []), ([4, 3], [4]), ([], []), ([], []), ([7, 5], [7]), ([6, 8], [6, 8]), ([9], [9]), ([3, 5, 10], [3, 5, 10]), ([11], [11]), ([1, 12, 8], [1, 12]), ([0, 1, 2, 3, 4, 5, 6, 7, 8, 9, 10, 11, 12, 13], []), ([14, 13, 13, 0, 1, 2, 3, 4, 5, 6, 7, 8, 9, 10, 11, 12, 13], [13, 14])])
def spec_l92Queue.B21 : List Nat := [0, 1, 0, 4, 0, 28, 0, 0, 188, 508, 1020, 2044, 4092, 8191, 16383, 32767]
theorem spec_l92Queue.tab21 : rtab .any (opsOf Try.f34 21) = spec_l92Queue.T21 := by kernel_rfl
theorem spec_l92Queue.bits21 : waitsOk spec_l92Queue.T21.2 spec_l92Queue.B21 = true := by kernel_rfl
abbrev z34q0 : Array Bool := bQ 10 0
abbrev z34q1 : Array Bool := bQ 10 2
abbrev z34q2 : Array Bool := bQ 10 6
abbrev z34q3 : Array Bool := bQ 10 38
abbrev z34q4 : Array Bool := bQ 10 39
abbrev z34q5 : Array Bool := bQ 10 103
abbrev z34q6 : Array Bool := bQ 10 111
abbrev z34q7 : Array Bool := bQ 10 127
abbrev z34q8 : Array Bool := bQ 10 255
abbrev z34q9 : Array Bool := bQ 10 511
abbrev z34q10 : Array Bool := bQ 10 1023
abbrev z34q11 : Array Bool := bQ 10 1
abbrev z34q12 : Array Bool := bQ 10 17
abbrev z34q13 : Array Bool := bQ 10 19
abbrev z34q14 : Array Bool := bQ 10 23
abbrev z34q15 : Array Bool := bQ 10 63
abbrev z34q16 : Array Bool := bQ 10 31
abbrev z34q17 : Array Bool := bQ 10 55
abbrev z34q18 : Array Bool := bQ 16 0
abbrev z34q19 : Array Bool := bQ 16 1
abbrev z34q20 : Array Bool := bQ 16 5
abbrev z34q21 : Array Bool := bQ 16 21
abbrev z34q22 : Array Bool := bQ 16 149
abbrev z34q23 : Array Bool := bQ 16 151
abbrev z34q24 : Array Bool := bQ 16 511
abbrev z34q25 : Array Bool := bQ 16 159
abbrev z34q26 : Array Bool := bQ 16 215
abbrev z34q27 : Array Bool := bQ 16 191
abbrev z34q28 : Array Bool := bQ 16 223
abbrev z34q29 : Array Bool := bQ 16 255
abbrev z34q30 : Array Bool := bQ 16 447
abbrev z34q31 : Array Bool := bQ 16 1023
abbrev z34q32 : Array Bool := bQ 16 2047
abbrev z34q33 : Array Bool := bQ 16 4095
abbrev z34q34 : Array Bool := bQ 16 8191
abbrev z34q35 : Array Bool := bQ 16 16383
abbrev z34q36 : Array Bool := bQ 16 32767
abbrev z34q37 : Array Bool := bQ 16 65535
set_option maxHeartbeats 2000000 in
set_option maxRecDepth 100000 in
theorem spec_l92Queue.calls (k:Nat) (g:Nat) (s0_0:List Int) (s0_1:Int) (r1:List (S40)) (r2:Int) (r3:Int) (w0 w:World) (hI:IsS58 w0 w g s0_0 s0_1) (hB:Below w0.heap.size w0 w) (h:spec_l92Queue.f k s0_0 s0_1=some (r1,r2,r3)) :
  Calls Try.prog 34 #[.pointer (some ⟨g,0,none⟩)] w fun e w'=>∃ v0_:Value,e=.returned (.agg #[v0_,.int .i64 r2])∧Kd.R k40 40 w' w.heap.size (fun _=>True) v0_ r1∧IsS58 w0 w' g s0_0 r3∧Below w0.heap.size w0 w'∧KeepBut w w' g none:=by
 have hu25:=Try.underlying25
 have hu40:=Try.underlying40
 have HI0:=Am hI
 have HK:=Am (KeepBut.refl w g none)
 have HL:=Am hB.size
 clear hI
 have HW0:=Am hB.size
 have HB:=Am hB
 clear hB
 have H:((spec_l6Rd_pick.f k s0_0 s0_1 6).bind fun bt179=>(spec_l92Queue.l0 k bt179.1 s0_0 bt179.2 (([]:List (S40))) 0))=some (r1,r2,r3):=h
 clear h
 obtain ⟨y175,hy175⟩:∃ y_:List (S40),y_=(([]:List (S40))):=⟨_,rfl⟩
 replace H:((spec_l6Rd_pick.f k s0_0 s0_1 6).bind fun bt179=>(spec_l92Queue.l0 k bt179.1 s0_0 bt179.2 y175 0))=some (r1,r2,r3):=by first|(rw [hy175];with_reducible exact H)|(have H2_:=(Option.bind_some _ _).symm.trans H;rw [hy175];with_reducible exact H2_)|(have H2_:=(Option.bind_some _ _).symm.trans H;with_reducible exact H2_)|with_reducible exact H|(rw [hy175];exact H)|exact H
 have Ny175:=Am hy175
 clear hy175
 replace H:=oC H
 obtain ⟨⟨t179,t180⟩,A20,H⟩:=H
 replace H:(spec_l92Queue.l0 k t179 s0_0 t180 y175 0)=some (r1,r2,r3):=H
 have A2:=Am A20
 clear A20
 have H':=Am H
 clear H
 go_enter Try.func34,Try.ntmps34
 go_wp2_with (first|((with_reducible refine gate_dst (N:=2) rfl ?_);refine box_event ?hg (N:=2) ?hd (cs:=#[.slice none 0 0,.int .i64 0]) (t:=25) ?hr ?_;(case hd=>rfl);(case hg=>rfl);(case hr=>first|(go_simp;done)|(go_simp;rfl));intro Bh hg w3 hbox hb;have n0_:=Am (IsS58.below (by repeat (first|(with_reducible first|exact HI0.out|apply IsS58.alloc|apply IsS58.drewN|apply IsS58.drew|apply IsS58.set_1)|exact HI0.out)) hb);have n1_:=Am (KeepBut.trans (by repeat (first|(with_reducible first|exact HK.out|apply KeepBut.set_|apply keep_drewN|apply keep_drew|apply keep_alloc)|exact HK.out)) (KeepBut.of_below hb g none) (.inl rfl));have n2_:=Am (bP (by repeat (first|(with_reducible first|exact HB.out|apply oA|apply pN|apply o1|refine bS ?_ (IsS58.ge HI0.out))|exact HB.out)) hb);have n3_:=Am (hbox);have n4_:=Am ((by rw [hg];exact (keep_size (w:=w) (g:=g) (row:=none) (by repeat (first|(with_reducible first|exact HK.out|apply KeepBut.set_|apply keep_drewN|apply keep_drew|apply keep_alloc)|exact HK.out))):w.heap.size≤Bh));have n5_:=Am ((Nat.le_trans HW0.out (by rw [hg];exact (keep_size (w:=w) (g:=g) (row:=none) (by repeat (first|(with_reducible first|exact HK.out|apply KeepBut.set_|apply keep_drewN|apply keep_drew|apply keep_alloc)|exact HK.out))):w.heap.size≤Bh):w0.heap.size≤Bh));have n6_:=Am ((by rw [hg];exact Nat.ne_of_lt (IsS58.lt (show IsS58 w0 _ g s0_0 s0_1 from by repeat (first|(with_reducible first|exact HI0.out|apply IsS58.alloc|apply IsS58.drewN|apply IsS58.drew|apply IsS58.set_1)|exact HI0.out))):g≠Bh));have n7_:=Am ((by rw [hg];exact Nat.ne_of_gt (IsS58.lt (show IsS58 w0 _ g s0_0 s0_1 from by repeat (first|(with_reducible first|exact HI0.out|apply IsS58.alloc|apply IsS58.drewN|apply IsS58.drew|apply IsS58.set_1)|exact HI0.out))):Bh≠g));clear HI0 HK HB;revert n0_ n1_ n2_ n3_ n4_ n5_ n6_ n7_;intro HI0 HK HB Bc Bg Bj Be Bn;clear hb hbox hg)|((with_reducible refine gate_dst (N:=8) rfl ?_);refine Kd.R_lit k40 _ 40 ?hg (N:=8) ?hd (xs:=([]:List (S40))) (inner:=[]) (ok:=fun _=>True) (okp:=fun _=>True) ?hr ?hp (fun _ hk=>hk) trivial (Below.refl _ _) (Nat.le_refl _) (by simp) ?_;(case hd=>rfl);(case hg=>rfl);(case hr=>first|(go_simp;done)|(go_simp;rfl));(case hp=>exact (Reps.none _ _));intro v176 w4 ho5 hb hg_ hnew_;clear hg_ hnew_;(first|rw [← Ny175.out] at ho5|(simp only [Int.reduceToNat] at ho5;rw [← Ny175.out] at ho5));have n0_:=Am (Kd.R_lower ho5 (keep_size (w:=w) (g:=g) (row:=none) (by repeat (first|(with_reducible first|exact HK.out|apply KeepBut.set_|apply keep_drewN|apply keep_drew|apply keep_alloc|refine keep_far ?_ Bg.out _)|exact HK.out))));have n1_:=Am (IsS58.below (by repeat (first|(with_reducible first|exact HI0.out|apply IsS58.alloc|apply IsS58.drewN|apply IsS58.drew|apply IsS58.set_1|refine IsS58.far ?_ Be.out _)|exact HI0.out)) hb);have n2_:=Am (bX Bc.out hb);have n3_:=Am (KeepBut.trans (by repeat (first|(with_reducible first|exact HK.out|apply KeepBut.set_|apply keep_drewN|apply keep_drew|apply keep_alloc|refine keep_far ?_ Bg.out _)|exact HK.out)) (KeepBut.of_below hb g none) (.inl rfl));have n4_:=Am (bP (by repeat (first|(with_reducible first|exact HB.out|apply oA|apply pN|apply o1|refine bS ?_ (IsS58.ge HI0.out)|refine bS ?_ Bj.out)|exact HB.out)) hb);clear HI0 Bc HK HB;revert n0_ n1_ n2_ n3_ n4_;intro Br HI0 Bc HK HB;clear hb ho5;obtain ⟨Ao6,co6,eo6⟩:=Kd.R_slice Br.out;subst eo6)|((with_reducible refine gate_dst (N:=3) rfl ?_);refine box_event ?hg (N:=3) ?hd (cs:=#[.slice none 0 0,.int .i64 0]) (t:=25) ?hr ?_;(case hd=>rfl);(case hg=>rfl);(case hr=>first|(go_simp;done)|(go_simp;rfl));intro Bf hg w7 hbox hb;have n0_:=Am (rB (rL Br.out) hb);have n1_:=Am (IsS58.below (by repeat (first|(with_reducible first|exact HI0.out|apply IsS58.alloc|apply IsS58.drewN|apply IsS58.drew|apply IsS58.set_1|refine IsS58.far ?_ Be.out _)|exact HI0.out)) hb);have n2_:=Am (bX Bc.out hb);have n3_:=Am (KeepBut.trans (by repeat (first|(with_reducible first|exact HK.out|apply KeepBut.set_|apply keep_drewN|apply keep_drew|apply keep_alloc|refine keep_far ?_ Bg.out _)|exact HK.out)) (KeepBut.of_below hb g none) (.inl rfl));have n4_:=Am (bP (by repeat (first|(with_reducible first|exact HB.out|apply oA|apply pN|apply o1|refine bS ?_ (IsS58.ge HI0.out)|refine bS ?_ Bj.out)|exact HB.out)) hb);have n5_:=Am (hbox);have n6_:=Am ((by rw [hg];exact (keep_size (w:=w) (g:=g) (row:=none) (by repeat (first|(with_reducible first|exact HK.out|apply KeepBut.set_|apply keep_drewN|apply keep_drew|apply keep_alloc|refine keep_far ?_ Bg.out _)|exact HK.out))):w.heap.size≤Bf));have n7_:=Am ((Nat.le_trans HW0.out (by rw [hg];exact (keep_size (w:=w) (g:=g) (row:=none) (by repeat (first|(with_reducible first|exact HK.out|apply KeepBut.set_|apply keep_drewN|apply keep_drew|apply keep_alloc|refine keep_far ?_ Bg.out _)|exact HK.out))):w.heap.size≤Bf):w0.heap.size≤Bf));have n8_:=Am ((nL Bc.out hg));have n9_:=Am ((nG Bc.out hg));have n10_:=Am ((by rw [hg];exact Nat.ne_of_lt (IsS58.lt (show IsS58 w0 _ g s0_0 s0_1 from by repeat (first|(with_reducible first|exact HI0.out|apply IsS58.alloc|apply IsS58.drewN|apply IsS58.drew|apply IsS58.set_1|refine IsS58.far ?_ Be.out _)|exact HI0.out))):g≠Bf));have n11_:=Am ((by rw [hg];exact Nat.ne_of_gt (IsS58.lt (show IsS58 w0 _ g s0_0 s0_1 from by repeat (first|(with_reducible first|exact HI0.out|apply IsS58.alloc|apply IsS58.drewN|apply IsS58.drew|apply IsS58.set_1|refine IsS58.far ?_ Be.out _)|exact HI0.out))):Bf≠g));clear Br HI0 Bc HK HB;revert n0_ n1_ n2_ n3_ n4_ n5_ n6_ n7_ n8_ n9_ n10_ n11_;intro Br HI0 Bc HK HB Bb Bi Bk Bo Bp Bd Bl;clear hb hbox hg;have Fq:=Bp.out;have Fr:=Bo.out;have Fs:=Bl.out;have Ft:=Bd.out;have Bt:=cz0 Bb.out;have Bu:=cz1 Bb.out;have Bv:=bF Bb.out 0;have Bw:=bF Bb.out 1)|((with_reducible refine gate_callee (f:=35) rfl ?_);refine goesL_ (some 11) rfl rfl Try.func35 (by kernel_rfl) rfl #[.pointer (some ⟨g,0,none⟩),.int .i64 6] rfl (by (try simp only [lM,lC,lN]);first|done|rfl|(simp only [lD,lT];rfl)) ?_;(with_reducible refine (spec_l6Rd_pick.calls k g s0_0 s0_1 6 t179 t180 w0 _ ?side1 ?side2 A2.out).mono ?_);(case side1=>repeat (first|(with_reducible first|exact HI0.out|apply IsS58.alloc|apply IsS58.drewN|apply IsS58.drew|apply IsS58.set_1|refine IsS58.far ?_ Be.out _|refine IsS58.far ?_ Bd.out _)|exact HI0.out));(case side2=>repeat (first|(with_reducible first|exact HB.out|apply oA|apply pN|apply o1|refine bS ?_ (IsS58.ge HI0.out)|refine bS ?_ Bj.out|refine bS ?_ Bk.out)|exact HB.out));rintro e w11 ⟨rfl,hi,hb,hk⟩;refine ⟨_,rfl,?_⟩;have n0_:=Am (KeepBut.blk hk (g':=Bh) (o:=.cells #[.slice none 0 0,.int .i64 0] 25 (0,0)) (by (with_reducible repeat (first|refine bN ?_ _|refine bD ?_|refine bA ?_ _|refine blk_far ?_ Bo.out _));exact Bc.out) Bn.out (by simp));have n1_:=Am (rM (Kd.R_keep (IsS58.apart (show IsS58 w0 _ g s0_0 s0_1 from by repeat (first|(with_reducible first|exact HI0.out|apply IsS58.alloc|apply IsS58.drewN|apply IsS58.drew|apply IsS58.set_1|refine IsS58.far ?_ Be.out _|refine IsS58.far ?_ Bd.out _)|exact HI0.out)) (by (with_reducible repeat (first|apply rA|apply rN|apply rD));exact (rM (rF (p:=⟨Bf,1,none⟩) (rF (p:=⟨Bf,0,none⟩) (rT Br.out Bb.out (by decide)) (fun _ hk=>hk.2) (.slice Ao6 y175.length co6)) (fun _ hk=>hk.2) (.int .i64 0)) (fun _ h_=>h_.1))) (by decide)) hk (fun _ h=>h.2)) (fun _ h=>h.1));have n2_:=Am (KeepBut.blk hk (g':=Bf) (o:=.cells #[.slice Ao6 y175.length co6,.int .i64 0] 25 (0,0)) (by (with_reducible repeat (first|refine bN ?_ _|refine bD ?_|refine bA ?_ _));refine blk_put (cs:=#[.slice Ao6 y175.length co6,.int .i64 0]) ?_ 1 _ rfl;(with_reducible repeat (first|refine bN ?_ _|refine bD ?_|refine bA ?_ _));refine blk_put (cs:=#[.slice none 0 0,.int .i64 0]) ?_ 0 _ rfl;(with_reducible repeat (first|refine bN ?_ _|refine bD ?_|refine bA ?_ _));exact Bb.out) Bl.out (by simp));have n3_:=Am (KeepBut.trans (by repeat (first|(with_reducible first|exact HK.out|apply KeepBut.set_|apply keep_drewN|apply keep_drew|apply keep_alloc|refine keep_far ?_ Bg.out _|refine keep_far ?_ Bi.out _)|exact HK.out)) hk (.inl rfl));have n4_:=Am (hb);have n5_:=Am (hi);clear Bc Br Bb HK HB HI0;revert n0_ n1_ n2_ n3_ n4_ n5_;intro Bc Br Bb HK HB HI0;(try clear hb);(try clear hb2);(try clear hk);(try clear hi)))
 go_loopg [4] k (fun kq v4 w'=>∃ (x4_1:Int) (x1001_1:Int) (x179000_1:List (S40)) (x179001_1:Int) (u179000:Value),v4=.int .i64 x4_1∧Aside0 (spec_l92Queue.l0 kq x4_1 s0_0 x1001_1 x179000_1 x179001_1=some (r1,r2,r3))∧Aside0 (kq≤k)∧Aside0 (Kd.R k40 40 w' w.heap.size (fun _=>True) u179000 x179000_1)∧Aside0 (w'.heap[Bh]?=some (.cells #[(.slice none 0 0),.int .i64 0] 25 (0,0)))∧Aside0 (w'.heap[Bf]?=some (.cells #[u179000,.int .i64 x179001_1] 25 (0,0)))∧Aside0 (IsS58 w0 w' g s0_0 x1001_1)∧Aside0 (KeepBut w w' g none)∧Aside0 (Below w0.heap.size w0 w'))
 case atStart=>exact ⟨(t179),(t180),(y175),(0),(.slice Ao6 y175.length co6),(by first|rfl|(simp;done)|(simp [*];done)),H',⟨Nat.le_refl _⟩,⟨by (with_reducible repeat (first|apply rA|apply rN|apply rD));exact Br.out⟩,⟨by (with_reducible repeat (first|refine bN ?_ _|refine bD ?_|refine bA ?_ _));exact Bc.out⟩,⟨by (with_reducible repeat (first|refine bN ?_ _|refine bD ?_|refine bA ?_ _));exact Bb.out⟩,⟨by repeat (first|(with_reducible first|exact HI0.out|apply IsS58.alloc|apply IsS58.drewN|apply IsS58.drew|apply IsS58.set_1|refine IsS58.far ?_ Be.out _|refine IsS58.far ?_ Bd.out _)|exact HI0.out)⟩,⟨by repeat (first|(with_reducible first|exact HK.out|apply KeepBut.set_|apply keep_drewN|apply keep_drew|apply keep_alloc|refine keep_far ?_ Bg.out _|refine keep_far ?_ Bi.out _)|exact HK.out)⟩,⟨by repeat (first|(with_reducible first|exact HB.out|apply oA|apply pN|apply o1|refine bS ?_ (IsS58.ge HI0.out)|refine bS ?_ Bj.out|refine bS ?_ Bk.out)|exact HB.out)⟩⟩
 case round =>
  clear H'
  try clear p2
  try clear c3
  try clear c8
  try clear c9
  try clear Bt
  try clear Bu
  try clear Bv
  try clear Bw
  obtain ⟨x4_1,x1001_1,x179000_1,x179001_1,u179000,rfl,HA,HK1,Ba,Bc,Bb,HI0,HK,HB⟩:=hrel
  cases gk with
 |zero=>exact absurd HA.out (by simp [spec_l92Queue.l0])
 |succ k1 =>
   have H:=HA.out
   clear HA
   simp only [spec_l92Queue.l0] at H
   by_cases c12:x4_1 > 0
   ·rw [if_pos c12] at H
    have c12b0:decide (0<x4_1)=true:=decide_eq_true c12
    clear c12
    replace H:=oC H
    obtain ⟨⟨t181,t182⟩,A130,H⟩:=H
    replace H:((spec_l11At.f k1 x179000_1 x179001_1 t181).bind fun t183=>(if t183<0 then ((spec_l6Rd_pick.f k1 s0_0 t182 6).bind fun bt184=>((spec_l11Add.f k1 x179000_1 x179001_1 t181 (wrap64 (1 + bt184.1)) x179001_1 true).bind fun bt186=>(spec_l92Queue.j1 k1 x4_1 s0_0 bt184.2 bt186.1 bt186.2))) else (spec_l92Queue.j1 k1 x4_1 s0_0 t182 x179000_1 x179001_1)))=some (r1,r2,r3):=H
    have A13:=Am A130
    clear A130
    replace H:=oC H
    obtain ⟨t183,A140,H⟩:=H
    replace H:(if t183<0 then ((spec_l6Rd_pick.f k1 s0_0 t182 6).bind fun bt184=>((spec_l11Add.f k1 x179000_1 x179001_1 t181 (wrap64 (1 + bt184.1)) x179001_1 true).bind fun bt186=>(spec_l92Queue.j1 k1 x4_1 s0_0 bt184.2 bt186.1 bt186.2))) else (spec_l92Queue.j1 k1 x4_1 s0_0 t182 x179000_1 x179001_1))=some (r1,r2,r3):=H
    have A14:=Am A140
    clear A140
    have HC15:=Am H
    clear H
    go_upto_if 21 with (first|((with_reducible refine gate_callee (f:=35) rfl ?_);refine goesL_ (some 17) rfl rfl Try.func35 (by kernel_rfl) rfl #[.pointer (some ⟨g,0,none⟩),.int .i64 8] rfl (by (try simp only [lM,lC,lN]);first|done|rfl|(simp only [lD,lT];rfl)) ?_;(with_reducible refine (spec_l6Rd_pick.calls k1 g s0_0 x1001_1 8 t181 t182 w0 _ ?side1 ?side2 A13.out).mono ?_);(case side1=>repeat (first|(with_reducible first|exact HI0.out|apply IsS58.alloc|apply IsS58.drewN|apply IsS58.drew|apply IsS58.set_1|refine IsS58.far ?_ Be.out _|refine IsS58.far ?_ Bd.out _)|exact HI0.out));(case side2=>repeat (first|(with_reducible first|exact HB.out|apply oA|apply pN|apply o1|refine bS ?_ (IsS58.ge HI0.out)|refine bS ?_ Bj.out|refine bS ?_ Bk.out)|exact HB.out));rintro e w16 ⟨rfl,hi,hb,hk⟩;refine ⟨_,rfl,?_⟩;have n0_:=Am (rM (Kd.R_keep (IsS58.apart (show IsS58 w0 _ g s0_0 x1001_1 from by repeat (first|(with_reducible first|exact HI0.out|apply IsS58.alloc|apply IsS58.drewN|apply IsS58.drew|apply IsS58.set_1|refine IsS58.far ?_ Be.out _|refine IsS58.far ?_ Bd.out _)|exact HI0.out)) (rL Ba.out) (by decide)) hk (fun _ h=>h.2)) (fun _ h=>h.1));have n1_:=Am (KeepBut.blk hk (g':=Bh) (o:=.cells #[.slice none 0 0,.int .i64 0] 25 (0,0)) (bL Bc.out) Bn.out (by simp));have n2_:=Am (KeepBut.blk hk (g':=Bf) (o:=.cells #[u179000,.int .i64 x179001_1] 25 (0,0)) (bL Bb.out) Bl.out (by simp));have n3_:=Am (KeepBut.trans (by repeat (first|(with_reducible first|exact HK.out|apply KeepBut.set_|apply keep_drewN|apply keep_drew|apply keep_alloc|refine keep_far ?_ Bg.out _|refine keep_far ?_ Bi.out _)|exact HK.out)) hk (.inl rfl));have n4_:=Am (hb);have n5_:=Am (hi);clear Ba Bc Bb HK HB HI0;revert n0_ n1_ n2_ n3_ n4_ n5_;intro Ba Bc Bb HK HB HI0;(try clear hb);(try clear hb2);(try clear hk);(try clear hi);have DY:=Bp.out;have DZ:=Bo.out;have D0:=Bl.out;have D1:=Bd.out;have Bx:=cz0 Bb.out;have By:=cz1 Bb.out;have Bz:=bF Bb.out 0;have BA:=bF Bb.out 1;obtain ⟨Ao20,co20,eo20⟩:=Kd.R_slice Ba.out;subst eo20)|((with_reducible refine gate_callee (f:=38) rfl ?_);refine goesL_ (some 20) rfl rfl Try.func38 (by kernel_rfl) rfl #[.agg #[.slice Ao20 x179000_1.length co20,.int .i64 x179001_1],.int .i64 t181] rfl (by (try simp only [lM,lC,lN]);first|done|rfl|(simp only [lD,lT];rfl)) ?_;(with_reducible refine (spec_l11At.calls k1 _ _ x179000_1 x179001_1 t181 t183 _ ?side1 ?side2 A14.out).mono ?_);(case side1=>exact cL (Kd.R_reads' Ba.out).2.2);(case side2=>exact (Kd.R_reads' Ba.out).2.1);rintro e w21 ⟨rfl,hb⟩;refine ⟨_,rfl,?_⟩;have n0_:=Am (rB (rL Ba.out) hb);have n1_:=Am (bX Bc.out hb);have n2_:=Am (bX Bb.out hb);have n3_:=Am (IsS58.below (by repeat (first|(with_reducible first|exact HI0.out|apply IsS58.alloc|apply IsS58.drewN|apply IsS58.drew|apply IsS58.set_1|refine IsS58.far ?_ Be.out _|refine IsS58.far ?_ Bd.out _)|exact HI0.out)) hb);have n4_:=Am (KeepBut.trans (by repeat (first|(with_reducible first|exact HK.out|apply KeepBut.set_|apply keep_drewN|apply keep_drew|apply keep_alloc|refine keep_far ?_ Bg.out _|refine keep_far ?_ Bi.out _)|exact HK.out)) (KeepBut.of_below hb g none) (.inl rfl));have n5_:=Am (bP (by repeat (first|(with_reducible first|exact HB.out|apply oA|apply pN|apply o1|refine bS ?_ (IsS58.ge HI0.out)|refine bS ?_ Bj.out|refine bS ?_ Bk.out)|exact HB.out)) hb);clear Ba Bc Bb HI0 HK HB;revert n0_ n1_ n2_ n3_ n4_ n5_;intro Ba Bc Bb HI0 HK HB;(try clear hb);(try clear hb2);(try clear hk);(try clear hi)))
    (try simp only [Act.put,lA,lZ,lS])
    go_cut [] (fun wc=>∃ (kq:Nat) (x1001_14:Int) (x179000_14:List (S40)) (x179001_14:Int) (u179000:Value),Aside0 (spec_l92Queue.j1 kq x4_1 s0_0 x1001_14 x179000_14 x179001_14=some (r1,r2,r3))∧Aside0 (kq≤k1)∧Aside0 (Kd.R k40 40 wc w.heap.size (fun _=>True) u179000 x179000_14)∧Aside0 (wc.heap[Bh]?=some (.cells #[(.slice none 0 0),.int .i64 0] 25 (0,0)))∧Aside0 (wc.heap[Bf]?=some (.cells #[u179000,.int .i64 x179001_14] 25 (0,0)))∧Aside0 (IsS58 w0 wc g s0_0 x1001_14)∧Aside0 (KeepBut w wc g none)∧Aside0 (Below w0.heap.size w0 wc))
    case first =>
     have H:=HC15.out
     clear HC15
     by_cases c22:t183<0
     rotate_left
     ·rw [if_neg c22] at H
      have c22b0:decide (t183<0)=false:=decide_eq_false c22
      clear c22
      (first|rw [c22b0]|(simp only [i64_w,i32_w];rw [c22b0])|skip)
      have H':=Am H
      clear H
      go_wp2
      go_meet
      case rel=>exact ⟨_,(t182),(x179000_1),(x179001_1),(.slice Ao20 x179000_1.length co20),H',⟨by have:=HK1.out;first|omega|exact Nat.le_refl _⟩,⟨by (with_reducible repeat (first|apply rA|apply rN|apply rD));exact Ba.out⟩,⟨by (with_reducible repeat (first|refine bN ?_ _|refine bD ?_|refine bA ?_ _));exact Bc.out⟩,⟨by (with_reducible repeat (first|refine bN ?_ _|refine bD ?_|refine bA ?_ _));exact Bb.out⟩,⟨by repeat (first|(with_reducible first|exact HI0.out|apply IsS58.alloc|apply IsS58.drewN|apply IsS58.drew|apply IsS58.set_1|refine IsS58.far ?_ Be.out _|refine IsS58.far ?_ Bd.out _)|exact HI0.out)⟩,⟨by repeat (first|(with_reducible first|exact HK.out|apply KeepBut.set_|apply keep_drewN|apply keep_drew|apply keep_alloc|refine keep_far ?_ Bg.out _|refine keep_far ?_ Bi.out _)|exact HK.out)⟩,⟨by repeat (first|(with_reducible first|exact HB.out|apply oA|apply pN|apply o1|refine bS ?_ (IsS58.ge HI0.out)|refine bS ?_ Bj.out|refine bS ?_ Bk.out)|exact HB.out)⟩⟩
     rw [if_pos c22] at H
     have c22b0:decide (t183<0)=true:=decide_eq_true c22
     clear c22
     (first|rw [c22b0]|(simp only [i64_w,i32_w];rw [c22b0])|skip)
     replace H:=oC H
     obtain ⟨⟨t184,t185⟩,A230,H⟩:=H
     replace H:((spec_l11Add.f k1 x179000_1 x179001_1 t181 (wrap64 (1 + t184)) x179001_1 true).bind fun bt186=>(spec_l92Queue.j1 k1 x4_1 s0_0 t185 bt186.1 bt186.2))=some (r1,r2,r3):=H
     have A23:=Am A230
     clear A230
     replace H:=oC H
     obtain ⟨⟨t186,t189⟩,A240,H⟩:=H
     replace H:(spec_l92Queue.j1 k1 x4_1 s0_0 t185 t186 t189)=some (r1,r2,r3):=H
     have A24:=Am A240
     clear A240
     have H':=Am H
     clear H
     try go_wp2
     have n0_:=Am (rD Ba.out)
     have n1_:=Am (bD Bc.out)
     have n2_:=Am (bD Bb.out)
     have n3_:=Am (IsS58.drew HI0.out)
     have n4_:=Am (keep_drew HK.out)
     have n5_:=Am (o1 HB.out)
     clear Ba
     clear Bc
     clear Bb
     clear HI0
     clear HK
     clear HB
     have Ba:=n0_
     have Bc:=n1_
     have Bb:=n2_
     have HI0:=n3_
     have HK:=n4_
     have HB:=n5_
     clear n0_ n1_ n2_ n3_ n4_ n5_
     refine start_ (n:=10) (S:=fun w'=>w'.cell? ⟨Bf,0,none⟩=some (.slice Ao20 x179000_1.length co20)∧w'.cell? ⟨Bf,1,none⟩=some (.int .i64 x179001_1)) (ds:=[9]) z34q0 (by kernel_rfl) rfl rfl ⟨(bC Bb.out 0).trans rfl,(bC Bb.out 1).trans rfl⟩ (fun hHeld=>?_);refine with_st spec_l92Queue.tab7 spec_l92Queue.bits7 (fun _ _ _ _ _ h=>h) (fun HT_=>?_)
     generalize w21.drew=w25 at Ba Bc Bb HI0 HK HB hHeld ⊢
     refine pS 1 23 z34q1 HT_ rfl rfl (by kernel_rfl) (by rfl) (by intro w';go_simp;with_reducible rfl) (by simp only [Act.put,lA,lZ,lS,iw,jw];rfl) ?_
     refine pS 2 24 z34q2 HT_ rfl rfl (by kernel_rfl) (by rfl) (by intro w';go_simp;with_reducible rfl) (by simp only [Act.put,lA,lZ,lS,iw,jw];rfl) ?_
     refine pS 5 27 z34q3 HT_ rfl rfl (by kernel_rfl) (by rfl) (by intro w';go_simp;with_reducible rfl) (by simp only [Act.put,lA,lZ,lS,iw,jw];rfl) ?_
     refine tS 0 22 z34q4 HT_ hHeld rfl rfl (by kernel_rfl) (by rfl) (by rintro w' ⟨s0,s1⟩;go_simp;with_reducible rfl) (by simp only [Act.put,lA,lZ,lS,iw,jw];rfl) ?_
     refine tS 6 28 z34q5 HT_ hHeld rfl rfl (by kernel_rfl) (by rfl) (by rintro w' ⟨s0,s1⟩;go_simp;with_reducible rfl) (by simp only [Act.put,lA,lZ,lS,iw,jw];rfl) ?_
     refine oS 3 25 z34q6 HT_ rfl rfl (by kernel_rfl) (by decide) (fun K hK=>?_)
     refine goes_ Try.func35 (by kernel_rfl) rfl #[.pointer (some ⟨g,0,none⟩),.int .i64 6] (by rfl) rfl rfl (by (try simp only [lM,lC,lN]);first|done|rfl|(simp only [lD,lT];rfl)) ?_
     with_reducible refine (spec_l6Rd_pick.calls k1 g s0_0 t182 6 t184 t185 w0 _ ?side1 ?side2 A23.out).mono ?_
     (case side1=>repeat (first|(with_reducible first|exact HI0.out|apply IsS58.alloc|apply IsS58.drewN|apply IsS58.drew|apply IsS58.set_1|refine IsS58.far ?_ Be.out _|refine IsS58.far ?_ Bd.out _)|exact HI0.out))
     (case side2=>repeat (first|(with_reducible first|exact HB.out|apply oA|apply pN|apply o1|refine bS ?_ (IsS58.ge HI0.out)|refine bS ?_ Bj.out|refine bS ?_ Bk.out)|exact HB.out))
     rintro e w26 ⟨rfl,hi,hb,hk⟩
     refine ⟨_,rfl,?_⟩
     have n0_:=Am (rM (Kd.R_keep (IsS58.apart (show IsS58 w0 _ g s0_0 t182 from by repeat (first|(with_reducible first|exact HI0.out|apply IsS58.alloc|apply IsS58.drewN|apply IsS58.drew|apply IsS58.set_1|refine IsS58.far ?_ Be.out _|refine IsS58.far ?_ Bd.out _)|exact HI0.out)) (rL Ba.out) (by decide)) hk (fun _ h=>h.2)) (fun _ h=>h.1))
     have n1_:=Am (KeepBut.blk hk (g':=Bh) (o:=.cells #[.slice none 0 0,.int .i64 0] 25 (0,0)) (bL Bc.out) Bn.out (by simp))
     have n2_:=Am (KeepBut.blk hk (g':=Bf) (o:=.cells #[.slice Ao20 x179000_1.length co20,.int .i64 x179001_1] 25 (0,0)) (bL Bb.out) Bl.out (by simp))
     have n3_:=Am (KeepBut.trans (by repeat (first|(with_reducible first|exact HK.out|apply KeepBut.set_|apply keep_drewN|apply keep_drew|apply keep_alloc|refine keep_far ?_ Bg.out _|refine keep_far ?_ Bi.out _)|exact HK.out)) hk (.inl rfl))
     have n4_:=Am (hb)
     have n5_:=Am (hi)
     clear Ba
     clear Bc
     clear Bb
     clear HK
     clear HB
     clear HI0
     have Ba:=n0_
     have Bc:=n1_
     have Bb:=n2_
     have HK:=n3_
     have HB:=n4_
     have HI0:=n5_
     clear n0_ n1_ n2_ n3_ n4_ n5_
     (try clear hb)
     (try clear hb2)
     (try clear hk)
     (try clear hi)
     refine hK.out _ _ ⟨(bC Bb.out 0).trans rfl,(bC Bb.out 1).trans rfl⟩ (fun hHeld=>?_)
     clear hK K
     refine norm_ (by show Act.put _ (some 25) _=_;simp only [Act.put,lA,lZ,lS,iw,jw];rfl) ?_
     refine pS 4 26 z34q7 HT_ rfl rfl (by kernel_rfl) (by rfl) (by intro w';go_simp;with_reducible rfl) (by simp only [Act.put,lA,lZ,lS,iw,jw];rfl) ?_
     refine pS 7 29 z34q8 HT_ rfl rfl (by kernel_rfl) (by rfl) (by intro w';go_simp;with_reducible rfl) (by simp only [Act.put,lA,lZ,lS,iw,jw];rfl) ?_
     refine oS 8 30 z34q9 HT_ rfl rfl (by kernel_rfl) (by decide) (fun K hK=>?_)
     refine goes_ Try.func47 (by kernel_rfl) rfl #[.agg #[.slice Ao20 x179000_1.length co20,.int .i64 x179001_1],.agg #[.int .i64 t181,.int .i64 (wrap64 (1 + t184)),.int .i64 x179001_1,.bool true]] (by rfl) rfl rfl (by (try simp only [lM,lC,lN]);first|done|rfl|(simp only [lD,lT];rfl)) ?_
     with_reducible refine (spec_l11Add.calls k1 _ _ x179000_1 x179001_1 t181 (wrap64 (1 + t184)) x179001_1 true t186 t189 _ ?side1 ?side2 A24.out).mono ?_
     (case side1=>exact cL (Kd.R_reads' Ba.out).2.2)
     (case side2=>exact (Kd.R_reads' Ba.out).2.1)
     rintro e w27 ⟨v187,rfl,ho0,hb⟩
     refine ⟨_,rfl,?_⟩
     have n0_:=Am (Kd.R_elder' (rL Ba.out) (Kd.R_base ho0) hb)
     have n1_:=Am (Kd.R_lower (Kd.R_new' ho0 (Kd.R_lt (rL Ba.out))) (keep_size (w:=w) (g:=g) (row:=none) (by repeat (first|(with_reducible first|exact HK.out|apply KeepBut.set_|apply keep_drewN|apply keep_drew|apply keep_alloc|refine keep_far ?_ Bg.out _|refine keep_far ?_ Bi.out _)|exact HK.out))))
     have n2_:=Am (bX Bc.out hb)
     have n3_:=Am (bX Bb.out hb)
     have n4_:=Am (IsS58.below (by repeat (first|(with_reducible first|exact HI0.out|apply IsS58.alloc|apply IsS58.drewN|apply IsS58.drew|apply IsS58.set_1|refine IsS58.far ?_ Be.out _|refine IsS58.far ?_ Bd.out _)|exact HI0.out)) hb)
     have n5_:=Am (KeepBut.trans (by repeat (first|(with_reducible first|exact HK.out|apply KeepBut.set_|apply keep_drewN|apply keep_drew|apply keep_alloc|refine keep_far ?_ Bg.out _|refine keep_far ?_ Bi.out _)|exact HK.out)) (KeepBut.of_below hb g none) (.inl rfl))
     have n6_:=Am (bP (by repeat (first|(with_reducible first|exact HB.out|apply oA|apply pN|apply o1|refine bS ?_ (IsS58.ge HI0.out)|refine bS ?_ Bj.out|refine bS ?_ Bk.out)|exact HB.out)) hb)
     clear Ba
     clear Bc
     clear Bb
     clear HI0
     clear HK
     clear HB
     have Ba:=n0_
     have BD:=n1_
     have Bc:=n2_
     have Bb:=n3_
     have HI0:=n4_
     have HK:=n5_
     have HB:=n6_
     clear n0_ n1_ n2_ n3_ n4_ n5_ n6_
     (try clear hb)
     (try clear hb2)
     (try clear hk)
     (try clear hi)
     (try clear ho0)
     obtain ⟨Ao28,co28,eo28⟩:=Kd.R_slice BD.out
     (first|subst eo28|(injection eo28 with f1_ f2_ f3_;have f4_:=f1_.symm;have f5_:=f3_.symm;clear f1_ f2_ f3_;subst f4_;subst f5_))
     refine hK.out _ _ ⟨(bC Bb.out 0).trans rfl,(bC Bb.out 1).trans rfl⟩ (fun hHeld=>?_)
     clear hK K
     refine norm_ (by show Act.put _ (some 30) _=_;simp only [Act.put,lA,lZ,lS,iw,jw];rfl) ?_
     refine last_ (i:=9) (N:=none) z34q10 rfl rfl (one_of HT_.out (by kernel_rfl)) (by decide) (fun K hK=>?_)
     have hs29:=cz0 Bb.out
     have hfs29:=bF Bb.out 0
     have hns29_0:=Bo.out
     have hms29_0:=Bp.out
     have hs30:=cz1 Bb.out
     have hfs30:=bF Bb.out 1
     have hns30_0:=Bo.out
     have hms30_0:=Bp.out
     refine skip_ (w1:=?_) (by rfl) rfl ?_ ?_
     rotate_left;(go_simp;rfl)
     refine hK.out _ _ ?_
     clear hK K
     refine done_ (done_of HT_.out (by kernel_rfl)) ?_
     try go_wp2
     go_meet
     case rel=>exact ⟨_,(t185),(t186),(t189),(.slice Ao28 t186.length co28),H',⟨by have:=HK1.out;first|omega|exact Nat.le_refl _⟩,⟨by (with_reducible repeat (first|apply rA|apply rN|apply rD));exact rM (rF (p:=⟨Bf,1,none⟩) (rF (p:=⟨Bf,0,none⟩) (rT BD.out Bb.out (by decide)) (fun _ hk=>hk.2) (.slice Ao28 t186.length co28)) (fun _ hk=>hk.2) (.int .i64 t189)) (fun _ hk=>trivial)⟩,⟨by (with_reducible repeat (first|refine bN ?_ _|refine bD ?_|refine bA ?_ _|refine blk_far ?_ Bo.out _));exact Bc.out⟩,⟨by (with_reducible repeat (first|refine bN ?_ _|refine bD ?_|refine bA ?_ _));refine blk_put (cs:=#[.slice Ao28 t186.length co28,.int .i64 x179001_1]) ?_ 1 _ rfl;(with_reducible repeat (first|refine bN ?_ _|refine bD ?_|refine bA ?_ _));refine blk_put (cs:=#[.slice Ao20 x179000_1.length co20,.int .i64 x179001_1]) ?_ 0 _ rfl;(with_reducible repeat (first|refine bN ?_ _|refine bD ?_|refine bA ?_ _));exact Bb.out⟩,⟨by repeat (first|(with_reducible first|exact HI0.out|apply IsS58.alloc|apply IsS58.drewN|apply IsS58.drew|apply IsS58.set_1|refine IsS58.far ?_ Be.out _|refine IsS58.far ?_ Bd.out _)|exact HI0.out)⟩,⟨by repeat (first|(with_reducible first|exact HK.out|apply KeepBut.set_|apply keep_drewN|apply keep_drew|apply keep_alloc|refine keep_far ?_ Bg.out _|refine keep_far ?_ Bi.out _)|exact HK.out)⟩,⟨by repeat (first|(with_reducible first|exact HB.out|apply oA|apply pN|apply o1|refine bS ?_ (IsS58.ge HI0.out)|refine bS ?_ Bj.out|refine bS ?_ Bk.out)|exact HB.out)⟩⟩
    case rest =>
     clear HC15
     try clear c1
     try clear c2
     try clear p2
     try clear c3
     try clear c4
     try clear p6
     try clear c8
     try clear c9
     try clear c12
     try clear c12b0
     try clear c17
     try clear c18
     try clear c22
     try clear c22b0
     try clear Bt
     try clear Bu
     try clear Bx
     try clear By
     try clear Bv
     try clear Bw
     try clear Bz
     try clear BA
     try clear p2
     obtain ⟨kq,x1001_14,x179000_14,x179001_14,u179000,HA,Bs,Ba,Bc,Bb,HI0,HK,HB⟩:=hcut
     cases kq with
    |zero=>exact absurd HA.out (by simp [spec_l92Queue.j1])
    |succ kj14 =>
      have H:=HA.out
      clear HA
      simp only [spec_l92Queue.j1] at H
      replace H:=oC H
      obtain ⟨⟨t190,t191⟩,A310,H⟩:=H
      replace H:(spec_l92Queue.l1 kj14 x4_1 t190 s0_0 t191 x179000_14 x179001_14)=some (r1,r2,r3):=H
      have A31:=Am A310
      clear A310
      have H':=Am H
      clear H
      go_wp2_with (first|((with_reducible refine gate_callee (f:=35) rfl ?_);refine goesL_ (some 32) rfl rfl Try.func35 (by kernel_rfl) rfl #[.pointer (some ⟨g,0,none⟩),.int .i64 9] rfl (by (try simp only [lM,lC,lN]);first|done|rfl|(simp only [lD,lT];rfl)) ?_;(with_reducible refine (spec_l6Rd_pick.calls kj14 g s0_0 x1001_14 9 t190 t191 w0 _ ?side1 ?side2 A31.out).mono ?_);(case side1=>repeat (first|(with_reducible first|exact HI0.out|apply IsS58.alloc|apply IsS58.drewN|apply IsS58.drew|apply IsS58.set_1|refine IsS58.far ?_ Be.out _|refine IsS58.far ?_ Bd.out _)|exact HI0.out));(case side2=>repeat (first|(with_reducible first|exact HB.out|apply oA|apply pN|apply o1|refine bS ?_ (IsS58.ge HI0.out)|refine bS ?_ Bj.out|refine bS ?_ Bk.out)|exact HB.out));rintro e w32 ⟨rfl,hi,hb,hk⟩;refine ⟨_,rfl,?_⟩;have n0_:=Am (rM (Kd.R_keep (IsS58.apart (show IsS58 w0 _ g s0_0 x1001_14 from by repeat (first|(with_reducible first|exact HI0.out|apply IsS58.alloc|apply IsS58.drewN|apply IsS58.drew|apply IsS58.set_1|refine IsS58.far ?_ Be.out _|refine IsS58.far ?_ Bd.out _)|exact HI0.out)) (rL Ba.out) (by decide)) hk (fun _ h=>h.2)) (fun _ h=>h.1));have n1_:=Am (KeepBut.blk hk (g':=Bh) (o:=.cells #[.slice none 0 0,.int .i64 0] 25 (0,0)) (bL Bc.out) Bn.out (by simp));have n2_:=Am (KeepBut.blk hk (g':=Bf) (o:=.cells #[u179000,.int .i64 x179001_14] 25 (0,0)) (bL Bb.out) Bl.out (by simp));have n3_:=Am (KeepBut.trans (by repeat (first|(with_reducible first|exact HK.out|apply KeepBut.set_|apply keep_drewN|apply keep_drew|apply keep_alloc|refine keep_far ?_ Bg.out _|refine keep_far ?_ Bi.out _)|exact HK.out)) hk (.inl rfl));have n4_:=Am (hb);have n5_:=Am (hi);clear Ba Bc Bb HK HB HI0;revert n0_ n1_ n2_ n3_ n4_ n5_;intro Ba Bc Bb HK HB HI0;(try clear hb);(try clear hb2);(try clear hk);(try clear hi)))
      go_loopg [6] kj14 (fun kq v6 w'=>∃ (x6_3:Int) (x179000_3:List (S40)) (x179001_3:Int) (u179000:Value),v6=.int .i64 x6_3∧Aside0 (spec_l92Queue.l1 kq x4_1 x6_3 s0_0 t191 x179000_3 x179001_3=some (r1,r2,r3))∧Aside0 (kq≤kj14)∧Aside0 (Kd.R k40 40 w' w.heap.size (fun _=>True) u179000 x179000_3)∧Aside0 (w'.heap[Bh]?=some (.cells #[(.slice none 0 0),.int .i64 0] 25 (0,0)))∧Aside0 (w'.heap[Bf]?=some (.cells #[u179000,.int .i64 x179001_3] 25 (0,0)))∧Aside0 (IsS58 w0 w' g s0_0 t191)∧Aside0 (KeepBut w w' g none)∧Aside0 (Below w0.heap.size w0 w'))
      case atStart=>exact ⟨(t190),(x179000_14),(x179001_14),(u179000),(by first|rfl|(simp;done)|(simp [*];done)),H',⟨Nat.le_refl _⟩,⟨by (with_reducible repeat (first|apply rA|apply rN|apply rD));exact Ba.out⟩,⟨by (with_reducible repeat (first|refine bN ?_ _|refine bD ?_|refine bA ?_ _));exact Bc.out⟩,⟨by (with_reducible repeat (first|refine bN ?_ _|refine bD ?_|refine bA ?_ _));exact Bb.out⟩,⟨by repeat (first|(with_reducible first|exact HI0.out|apply IsS58.alloc|apply IsS58.drewN|apply IsS58.drew|apply IsS58.set_1|refine IsS58.far ?_ Be.out _|refine IsS58.far ?_ Bd.out _)|exact HI0.out)⟩,⟨by repeat (first|(with_reducible first|exact HK.out|apply KeepBut.set_|apply keep_drewN|apply keep_drew|apply keep_alloc|refine keep_far ?_ Bg.out _|refine keep_far ?_ Bi.out _)|exact HK.out)⟩,⟨by repeat (first|(with_reducible first|exact HB.out|apply oA|apply pN|apply o1|refine bS ?_ (IsS58.ge HI0.out)|refine bS ?_ Bj.out|refine bS ?_ Bk.out)|exact HB.out)⟩⟩
      case round =>
       clear H'
       try clear c1
       try clear c2
       try clear p2
       try clear c3
       try clear c4
       try clear p6
       try clear c8
       try clear c9
       try clear c12
       try clear c12b0
       try clear c17
       try clear c18
       try clear c22
       try clear c22b0
       try clear Bt
       try clear Bu
       try clear Bx
       try clear By
       try clear Bv
       try clear Bw
       try clear Bz
       try clear BA
       try clear p2
       try clear p6
       obtain ⟨x6_3,x179000_3,x179001_3,u179000,rfl,HA,HK3,Ba,Bc,Bb,HI0,HK,HB⟩:=hrel
       cases gk with
      |zero=>exact absurd HA.out (by simp [spec_l92Queue.l1])
      |succ k3 =>
        have H:=HA.out
        clear HA
        simp only [spec_l92Queue.l1] at H
        by_cases c33:x6_3 > 0
        ·rw [if_pos c33] at H
         have c33b0:decide (0<x6_3)=true:=decide_eq_true c33
         clear c33
         replace H:=oC H
         obtain ⟨⟨t192,t195,t196⟩,A340,H⟩:=H
         replace H:(spec_l92Queue.l1 k3 x4_1 (wrap64 (x6_3 - 1)) s0_0 t191 t192 t195)=some (r1,r2,r3):=H
         have A34:=Am A340
         clear A340
         have H':=Am H
         clear H
         have D2:=Bp.out
         have D3:=Bo.out
         have D4:=Bl.out
         have D5:=Bd.out
         have BH:=cz0 Bb.out
         have BI:=cz1 Bb.out
         have BJ:=bF Bb.out 0
         have BK:=bF Bb.out 1
         obtain ⟨Ao38,co38,eo38⟩:=Kd.R_slice Ba.out
         subst eo38
         go_wp2_with (first|((with_reducible refine gate_callee (f:=44) rfl ?_);refine goesL_ (some 39) rfl rfl Try.func44 (by kernel_rfl) rfl #[.agg #[.slice Ao38 x179000_3.length co38,.int .i64 x179001_3]] rfl (by (try simp only [lM,lC,lN]);first|done|rfl|(simp only [lD,lT];rfl)) ?_;(with_reducible refine (spec_l11Tick.calls k3 (fun k_=>some k_=(.slice Ao38 x179000_3.length co38:Value).ownBlock) (.slice Ao38 x179000_3.length co38) x179000_3 x179001_3 t192 t195 t196 w0 _ ?side1 ?side2 A34.out).mono ?_);(case side1=>repeat (first|(with_reducible first|exact HB.out|apply oA|apply pN|apply o1|refine bS ?_ (IsS58.ge HI0.out)|refine bS ?_ Bj.out|refine bS ?_ Bk.out)|exact HB.out));(case side2=>exact Kd.R_lower (Kd.R_tight rfl Ba.out) HL.out);rintro e w39 ⟨v193,rfl,ho0,hb,hkp⟩;refine ⟨_,rfl,?_⟩;have n0_:=Am (blk_kept (bL Bc.out) hkp (fun hs_=>(fun e_=>(Kd.R_ne Ba.out Bc.out (by decide)) e_) hs_));have n1_:=Am (blk_kept (bL Bb.out) hkp (fun hs_=>(fun e_=>(Kd.R_ne Ba.out Bb.out (by decide)) e_) hs_));have n2_:=Am (IsS58.kept (by repeat (first|(with_reducible first|exact HI0.out|apply IsS58.alloc|apply IsS58.drewN|apply IsS58.drew|apply IsS58.set_1|refine IsS58.far ?_ Be.out _|refine IsS58.far ?_ Bd.out _)|exact HI0.out)) hkp (fun hs_=>(fun e_=>(IsS58.own_ne HI0.out Ba.out (by decide)) e_) hs_));have n3_:=Am (rM (ok':=fun k_=>True) (Kd.R_raise (d:=k40) (b:=w0.heap.size) (b':=w.heap.size) (fun _ _ _ _ h_=>h_) ho0 (fun k_ e_=>Or.elim (ho0.1 k_ e_) (fun hs_=>(fun e_=>Kd.R_base Ba.out k_ e_.symm) hs_) (fun hn_=>Nat.le_trans (keep_size (w:=w) (g:=g) (row:=none) (by repeat (first|(with_reducible first|exact HK.out|apply KeepBut.set_|apply keep_drewN|apply keep_drew|apply keep_alloc|refine keep_far ?_ Bg.out _|refine keep_far ?_ Bi.out _)|exact HK.out))) hn_))) (fun k_ hk_=>trivial));have n4_:=Am (Kept.keepG (by repeat (first|(with_reducible first|exact HK.out|apply KeepBut.set_|apply keep_drewN|apply keep_drew|apply keep_alloc|refine keep_far ?_ Bg.out _|refine keep_far ?_ Bi.out _)|exact HK.out)) hkp (fun k_ hs_=>(fun e_=>.inr (Kd.R_base Ba.out k_ e_.symm)) hs_));have n5_:=Am (hb);clear Bc Bb HI0 HK HB Ba;revert n0_ n1_ n2_ n3_ n4_ n5_;intro Bc Bb HI0 BE HK HB;(try clear hb);(try clear hkp);(try clear ho0);obtain ⟨Ao40,co40,eo40⟩:=Kd.R_slice BE.out;subst eo40;have BL:=cz0 Bb.out;have BM:=cz1 Bb.out;have BN:=bF Bb.out 0;have BO:=bF Bb.out 1))
         go_roundg k3
         case measure=>have:=HK1.out;have:=Bs.out;have:=HK3.out;omega
         case rel=>exact ⟨(wrap64 (x6_3 - 1)),(t192),(t195),(.slice Ao40 t192.length co40),(by first|rfl|(simp;done)|(simp [*];done)),H',⟨by have:=HK1.out;have:=Bs.out;have:=HK3.out;omega⟩,⟨by (with_reducible repeat (first|apply rA|apply rN|apply rD));exact rM (rF (p:=⟨Bf,1,none⟩) (rF (p:=⟨Bf,0,none⟩) (rT BE.out Bb.out (by decide)) (fun _ hk=>hk.2) (.slice Ao40 t192.length co40)) (fun _ hk=>hk.2) (.int .i64 t195)) (fun _ hk=>trivial)⟩,⟨by (with_reducible repeat (first|refine bN ?_ _|refine bD ?_|refine bA ?_ _|refine blk_far ?_ Bo.out _));exact Bc.out⟩,⟨by (with_reducible repeat (first|refine bN ?_ _|refine bD ?_|refine bA ?_ _));refine blk_put (cs:=#[.slice Ao40 t192.length co40,.int .i64 x179001_3]) ?_ 1 _ rfl;(with_reducible repeat (first|refine bN ?_ _|refine bD ?_|refine bA ?_ _));refine blk_put (cs:=#[.slice Ao38 x179000_3.length co38,.int .i64 x179001_3]) ?_ 0 _ rfl;(with_reducible repeat (first|refine bN ?_ _|refine bD ?_|refine bA ?_ _));exact Bb.out⟩,⟨by repeat (first|(with_reducible first|exact HI0.out|apply IsS58.alloc|apply IsS58.drewN|apply IsS58.drew|apply IsS58.set_1|refine IsS58.far ?_ Be.out _|refine IsS58.far ?_ Bd.out _)|exact HI0.out)⟩,⟨by repeat (first|(with_reducible first|exact HK.out|apply KeepBut.set_|apply keep_drewN|apply keep_drew|apply keep_alloc|refine keep_far ?_ Bg.out _|refine keep_far ?_ Bi.out _)|exact HK.out)⟩,⟨by repeat (first|(with_reducible first|exact HB.out|apply oA|apply pN|apply o1|refine bS ?_ (IsS58.ge HI0.out)|refine bS ?_ Bj.out|refine bS ?_ Bk.out)|exact HB.out)⟩⟩
        rw [if_neg c33] at H
        have c33b0:decide (0<x6_3)=false:=decide_eq_false c33
        clear c33
        have HC42:=Am H
        clear H
        go_upto_region 12 with (fail)
        go_cut [50] (fun v50 wc=>∃ (kq:Nat) (x50_41:Bool) (x1001_41:Int),v50=.bool x50_41∧Aside0 (spec_l92Queue.j3 kq x4_1 x50_41 s0_0 x1001_41 x179000_3 x179001_3=some (r1,r2,r3))∧Aside0 (kq≤k3)∧Aside0 (Kd.R k40 40 wc w.heap.size (fun _=>True) u179000 x179000_3)∧Aside0 (wc.heap[Bh]?=some (.cells #[(.slice none 0 0),.int .i64 0] 25 (0,0)))∧Aside0 (wc.heap[Bf]?=some (.cells #[u179000,.int .i64 x179001_3] 25 (0,0)))∧Aside0 (IsS58 w0 wc g s0_0 x1001_41)∧Aside0 (KeepBut w wc g none)∧Aside0 (Below w0.heap.size w0 wc))
        case first =>
         have H:=HC42.out
         clear HC42
         by_cases c43:(x179000_3.length:Int) > 0
         rotate_left
         ·rw [if_neg c43] at H
          have c43b0:decide (0<(x179000_3.length:Int))=false:=decide_eq_false c43
          have c43b1:decide (0<x179000_3.length)=false:=decide_eq_false (by omega)
          clear c43
          (first|rw [c43b0]|(simp only [i64_w,i32_w];rw [c43b0])|skip)
          have H':=Am H
          clear H
          have Fa:=Bp.out
          have Fb:=Bo.out
          have Fc:=Bl.out
          have Fd:=Bd.out
          have BT:=cz0 Bb.out
          have BU:=cz1 Bb.out
          have BV:=bF Bb.out 0
          have BW:=bF Bb.out 1
          obtain ⟨Ao53,co53,eo53⟩:=Kd.R_slice Ba.out
          subst eo53
          go_wp2
          go_meet
          case rel=>exact ⟨_,(false),(t191),(by first|rfl|(simp;done)|(simp [*];done)),H',⟨by have:=HK1.out;have:=Bs.out;have:=HK3.out;first|omega|exact Nat.le_refl _⟩,⟨by (with_reducible repeat (first|apply rA|apply rN|apply rD));exact Ba.out⟩,⟨by (with_reducible repeat (first|refine bN ?_ _|refine bD ?_|refine bA ?_ _));exact Bc.out⟩,⟨by (with_reducible repeat (first|refine bN ?_ _|refine bD ?_|refine bA ?_ _));exact Bb.out⟩,⟨by repeat (first|(with_reducible first|exact HI0.out|apply IsS58.alloc|apply IsS58.drewN|apply IsS58.drew|apply IsS58.set_1|refine IsS58.far ?_ Be.out _|refine IsS58.far ?_ Bd.out _)|exact HI0.out)⟩,⟨by repeat (first|(with_reducible first|exact HK.out|apply KeepBut.set_|apply keep_drewN|apply keep_drew|apply keep_alloc|refine keep_far ?_ Bg.out _|refine keep_far ?_ Bi.out _)|exact HK.out)⟩,⟨by repeat (first|(with_reducible first|exact HB.out|apply oA|apply pN|apply o1|refine bS ?_ (IsS58.ge HI0.out)|refine bS ?_ Bj.out|refine bS ?_ Bk.out)|exact HB.out)⟩⟩
         rw [if_pos c43] at H
         have c43b0:decide (0<(x179000_3.length:Int))=true:=decide_eq_true c43
         have c43b1:decide (0<x179000_3.length)=true:=decide_eq_true (by omega)
         clear c43
         (first|rw [c43b0]|(simp only [i64_w,i32_w];rw [c43b0])|skip)
         replace H:=oC H
         obtain ⟨⟨t197,t198⟩,A440,H⟩:=H
         replace H:(spec_l92Queue.j3 k3 x4_1 (t197 == 0) s0_0 t198 x179000_3 x179001_3)=some (r1,r2,r3):=H
         have A44:=Am A440
         clear A440
         have H':=Am H
         clear H
         have D6:=Bp.out
         have D7:=Bo.out
         have D8:=Bl.out
         have D9:=Bd.out
         have BP:=cz0 Bb.out
         have BQ:=cz1 Bb.out
         have BR:=bF Bb.out 0
         have BS:=bF Bb.out 1
         obtain ⟨Ao48,co48,eo48⟩:=Kd.R_slice Ba.out
         subst eo48
         go_wp2_with (first|(go_at_call 35;(with_reducible refine (spec_l6Rd_pick.calls k3 g s0_0 t191 3 t197 t198 w0 _ ?side1 ?side2 A44.out).mono ?_);(case side1=>repeat (first|(with_reducible first|exact HI0.out|apply IsS58.alloc|apply IsS58.drewN|apply IsS58.drew|apply IsS58.set_1|refine IsS58.far ?_ Be.out _|refine IsS58.far ?_ Bd.out _)|exact HI0.out));(case side2=>repeat (first|(with_reducible first|exact HB.out|apply oA|apply pN|apply o1|refine bS ?_ (IsS58.ge HI0.out)|refine bS ?_ Bj.out|refine bS ?_ Bk.out)|exact HB.out));rintro e w49 ⟨rfl,hi,hb,hk⟩;have n0_:=Am (rM (Kd.R_keep (IsS58.apart (show IsS58 w0 _ g s0_0 t191 from by repeat (first|(with_reducible first|exact HI0.out|apply IsS58.alloc|apply IsS58.drewN|apply IsS58.drew|apply IsS58.set_1|refine IsS58.far ?_ Be.out _|refine IsS58.far ?_ Bd.out _)|exact HI0.out)) (rL Ba.out) (by decide)) hk (fun _ h=>h.2)) (fun _ h=>h.1));have n1_:=Am (KeepBut.blk hk (g':=Bh) (o:=.cells #[.slice none 0 0,.int .i64 0] 25 (0,0)) (bL Bc.out) Bn.out (by simp));have n2_:=Am (KeepBut.blk hk (g':=Bf) (o:=.cells #[.slice Ao48 x179000_3.length co48,.int .i64 x179001_3] 25 (0,0)) (bL Bb.out) Bl.out (by simp));have n3_:=Am (KeepBut.trans (by repeat (first|(with_reducible first|exact HK.out|apply KeepBut.set_|apply keep_drewN|apply keep_drew|apply keep_alloc|refine keep_far ?_ Bg.out _|refine keep_far ?_ Bi.out _)|exact HK.out)) hk (.inl rfl));have n4_:=Am (hb);have n5_:=Am (hi);clear Ba Bc Bb HK HB HI0;revert n0_ n1_ n2_ n3_ n4_ n5_;intro Ba Bc Bb HK HB HI0;(try clear hb);(try clear hb2);(try clear hk);(try clear hi)))
         go_meet
         case rel=>exact ⟨_,((t197 == 0)),(t198),(by first|rfl|(simp;done)|(simp [*];done)),H',⟨by have:=HK1.out;have:=Bs.out;have:=HK3.out;first|omega|exact Nat.le_refl _⟩,⟨by (with_reducible repeat (first|apply rA|apply rN|apply rD));exact Ba.out⟩,⟨by (with_reducible repeat (first|refine bN ?_ _|refine bD ?_|refine bA ?_ _));exact Bc.out⟩,⟨by (with_reducible repeat (first|refine bN ?_ _|refine bD ?_|refine bA ?_ _));exact Bb.out⟩,⟨by repeat (first|(with_reducible first|exact HI0.out|apply IsS58.alloc|apply IsS58.drewN|apply IsS58.drew|apply IsS58.set_1|refine IsS58.far ?_ Be.out _|refine IsS58.far ?_ Bd.out _)|exact HI0.out)⟩,⟨by repeat (first|(with_reducible first|exact HK.out|apply KeepBut.set_|apply keep_drewN|apply keep_drew|apply keep_alloc|refine keep_far ?_ Bg.out _|refine keep_far ?_ Bi.out _)|exact HK.out)⟩,⟨by repeat (first|(with_reducible first|exact HB.out|apply oA|apply pN|apply o1|refine bS ?_ (IsS58.ge HI0.out)|refine bS ?_ Bj.out|refine bS ?_ Bk.out)|exact HB.out)⟩⟩
        case rest =>
         clear HC42
         try clear c1
         try clear c2
         try clear p2
         try clear c3
         try clear c4
         try clear c5
         try clear p6
         try clear c8
         try clear c9
         try clear c12
         try clear c12b0
         try clear c17
         try clear c18
         try clear c22
         try clear c22b0
         try clear c33
         try clear c33b0
         try clear c34
         try clear c35
         try clear c36
         try clear c38
         try clear c43
         try clear c43b0
         try clear c43b1
         try clear c44
         try clear c45
         try clear c46
         try clear c47
         try clear c50
         try clear c51
         try clear Bt
         try clear Bu
         try clear Bx
         try clear By
         try clear BH
         try clear BI
         try clear BL
         try clear BM
         try clear BP
         try clear BQ
         try clear BT
         try clear BU
         try clear Bv
         try clear Bw
         try clear Bz
         try clear BA
         try clear BJ
         try clear BK
         try clear BN
         try clear BO
         try clear BR
         try clear BS
         try clear BV
         try clear BW
         try clear p2
         try clear p6
         obtain ⟨kq,x50_41,x1001_41,rfl,HA,BB,Ba,Bc,Bb,HI0,HK,HB⟩:=hcut
         cases kq with
        |zero=>exact absurd HA.out (by simp [spec_l92Queue.j3])
        |succ kj41 =>
          have H:=HA.out
          clear HA
          simp only [spec_l92Queue.j3] at H
          by_cases c54:x50_41=true
          rotate_left
          ·replace c54:=Bool.eq_false_iff.mpr c54
           subst c54
           have H1:(spec_l92Queue.l0 kj41 (wrap64 (x4_1 - 1)) s0_0 x1001_41 x179000_3 x179001_3)=some (r1,r2,r3):=by rw [if_neg (show ¬ (false=true) by decide)] at H;exact H
           clear H
           have H:=H1
           clear H1
           have H':=Am H
           clear H
           go_wp2
           go_roundg kj41
           case measure=>have:=HK1.out;have:=Bs.out;have:=HK3.out;have:=BB.out;omega
           case rel=>exact ⟨(wrap64 (x4_1 - 1)),(x1001_41),(x179000_3),(x179001_3),(u179000),(by first|rfl|(simp;done)|(simp [*];done)),H',⟨by have:=HK1.out;have:=Bs.out;have:=HK3.out;have:=BB.out;omega⟩,⟨by (with_reducible repeat (first|apply rA|apply rN|apply rD));exact Ba.out⟩,⟨by (with_reducible repeat (first|refine bN ?_ _|refine bD ?_|refine bA ?_ _));exact Bc.out⟩,⟨by (with_reducible repeat (first|refine bN ?_ _|refine bD ?_|refine bA ?_ _));exact Bb.out⟩,⟨by repeat (first|(with_reducible first|exact HI0.out|apply IsS58.alloc|apply IsS58.drewN|apply IsS58.drew|apply IsS58.set_1|refine IsS58.far ?_ Be.out _|refine IsS58.far ?_ Bd.out _)|exact HI0.out)⟩,⟨by repeat (first|(with_reducible first|exact HK.out|apply KeepBut.set_|apply keep_drewN|apply keep_drew|apply keep_alloc|refine keep_far ?_ Bg.out _|refine keep_far ?_ Bi.out _)|exact HK.out)⟩,⟨by repeat (first|(with_reducible first|exact HB.out|apply oA|apply pN|apply o1|refine bS ?_ (IsS58.ge HI0.out)|refine bS ?_ Bj.out|refine bS ?_ Bk.out)|exact HB.out)⟩⟩
          subst c54
          have H1:((spec_l6Rd_pick.f kj41 s0_0 x1001_41 (x179000_3.length:Int)).bind fun bt199=>(if 0≤bt199.1 then (if bt199.1<(x179000_3.length:Int) then ((some (x179000_3.set (bt199.1:Int).toNat (⟨(rd_T40 x179000_3 bt199.1).f0,(rd_T40 x179000_3 bt199.1).f1,(rd_T40 x179000_3 bt199.1).f2,false⟩:S40):List (S40))).bind fun y201=>((spec_l6Rd_pick.f kj41 s0_0 bt199.2 2).bind fun bt202=>(if bt202.1=0 then ((spec_l11Wake.f y201 x179001_3 bt199.1).bind fun bt204=>(spec_l92Queue.l0 kj41 (wrap64 (x4_1 - 1)) s0_0 bt202.2 bt204.1 bt204.2)) else (spec_l92Queue.l0 kj41 (wrap64 (x4_1 - 1)) s0_0 bt202.2 y201 x179001_3)))) else (none)) else (none)))=some (r1,r2,r3):=by rw [if_pos rfl] at H;exact H
          clear H
          have H:=H1
          clear H1
          replace H:=oC H
          obtain ⟨⟨t199,t200⟩,A550,H⟩:=H
          replace H:(if 0≤t199 then (if t199<(x179000_3.length:Int) then ((some (x179000_3.set (t199:Int).toNat (⟨(rd_T40 x179000_3 t199).f0,(rd_T40 x179000_3 t199).f1,(rd_T40 x179000_3 t199).f2,false⟩:S40):List (S40))).bind fun y201=>((spec_l6Rd_pick.f kj41 s0_0 t200 2).bind fun bt202=>(if bt202.1=0 then ((spec_l11Wake.f y201 x179001_3 t199).bind fun bt204=>(spec_l92Queue.l0 kj41 (wrap64 (x4_1 - 1)) s0_0 bt202.2 bt204.1 bt204.2)) else (spec_l92Queue.l0 kj41 (wrap64 (x4_1 - 1)) s0_0 bt202.2 y201 x179001_3)))) else (none)) else (none))=some (r1,r2,r3):=H
          have A55:=Am A550
          clear A550
          by_cases c56:0≤t199
          rotate_left
          ·rw [if_neg c56] at H
           exact absurd H (by simp)
          rw [if_pos c56] at H
          have c56b0:decide (0≤t199)=true:=decide_eq_true c56
          clear c56
          by_cases c57:t199<(x179000_3.length:Int)
          rotate_left
          ·rw [if_neg c57] at H
           exact absurd H (by simp)
          rw [if_pos c57] at H
          have c57b0:decide (t199<(x179000_3.length:Int))=true:=decide_eq_true c57
          clear c57
          obtain ⟨y201,hy201⟩:∃ y_:List (S40),y_=(x179000_3.set (t199:Int).toNat (⟨(rd_T40 x179000_3 t199).f0,(rd_T40 x179000_3 t199).f1,(rd_T40 x179000_3 t199).f2,false⟩:S40)):=⟨_,rfl⟩
          replace H:((spec_l6Rd_pick.f kj41 s0_0 t200 2).bind fun bt202=>(if bt202.1=0 then ((spec_l11Wake.f y201 x179001_3 t199).bind fun bt204=>(spec_l92Queue.l0 kj41 (wrap64 (x4_1 - 1)) s0_0 bt202.2 bt204.1 bt204.2)) else (spec_l92Queue.l0 kj41 (wrap64 (x4_1 - 1)) s0_0 bt202.2 y201 x179001_3)))=some (r1,r2,r3):=by first|(rw [hy201];with_reducible exact H)|(have H2_:=(Option.bind_some _ _).symm.trans H;rw [hy201];with_reducible exact H2_)|(have H2_:=(Option.bind_some _ _).symm.trans H;with_reducible exact H2_)|with_reducible exact H|(rw [hy201];exact H)|exact H
          have Ny201:=Am hy201
          clear hy201
          replace H:=oC H
          obtain ⟨⟨t202,t203⟩,A590,H⟩:=H
          replace H:(if t202=0 then ((spec_l11Wake.f y201 x179001_3 t199).bind fun bt204=>(spec_l92Queue.l0 kj41 (wrap64 (x4_1 - 1)) s0_0 t203 bt204.1 bt204.2)) else (spec_l92Queue.l0 kj41 (wrap64 (x4_1 - 1)) s0_0 t203 y201 x179001_3))=some (r1,r2,r3):=H
          have A59:=Am A590
          clear A590
          by_cases c60:t202=0
          rotate_left
          ·rw [if_neg c60] at H
           have c60b0:(t202 == 0)=false:=beq_eq_false_iff_ne.mpr c60
           have c60b1:(t202 != 0)=true:=bne_iff_ne.mpr c60
           have H':=Am H
           clear H
           have Fi:=Bp.out
           have Fj:=Bo.out
           have Fk:=Bl.out
           have Fl:=Bd.out
           have DC:=cz0 Bb.out
           have DD:=cz1 Bb.out
           have DE:=bF Bb.out 0
           have DF:=bF Bb.out 1
           obtain ⟨Ao78,co78,eo78⟩:=Kd.R_slice Ba.out
           subst eo78
           go_wp2_with (first|((with_reducible refine gate_callee (f:=35) rfl ?_);refine goesL_ (some 55) rfl rfl Try.func35 (by kernel_rfl) rfl #[.pointer (some ⟨g,0,none⟩),.int .i64 (x179000_3.length:Int)] rfl (by (try simp only [lM,lC,lN]);first|done|rfl|(simp only [lD,lT];rfl)) ?_;(with_reducible refine (spec_l6Rd_pick.calls kj41 g s0_0 x1001_41 (x179000_3.length:Int) t199 t200 w0 _ ?side1 ?side2 A55.out).mono ?_);(case side1=>repeat (first|(with_reducible first|exact HI0.out|apply IsS58.alloc|apply IsS58.drewN|apply IsS58.drew|apply IsS58.set_1|refine IsS58.far ?_ Be.out _|refine IsS58.far ?_ Bd.out _)|exact HI0.out));(case side2=>repeat (first|(with_reducible first|exact HB.out|apply oA|apply pN|apply o1|refine bS ?_ (IsS58.ge HI0.out)|refine bS ?_ Bj.out|refine bS ?_ Bk.out)|exact HB.out));rintro e w79 ⟨rfl,hi,hb,hk⟩;refine ⟨_,rfl,?_⟩;have n0_:=Am (rM (Kd.R_keep (IsS58.apart (show IsS58 w0 _ g s0_0 x1001_41 from by repeat (first|(with_reducible first|exact HI0.out|apply IsS58.alloc|apply IsS58.drewN|apply IsS58.drew|apply IsS58.set_1|refine IsS58.far ?_ Be.out _|refine IsS58.far ?_ Bd.out _)|exact HI0.out)) (rL Ba.out) (by decide)) hk (fun _ h=>h.2)) (fun _ h=>h.1));have n1_:=Am (KeepBut.blk hk (g':=Bh) (o:=.cells #[.slice none 0 0,.int .i64 0] 25 (0,0)) (bL Bc.out) Bn.out (by simp));have n2_:=Am (KeepBut.blk hk (g':=Bf) (o:=.cells #[.slice Ao78 x179000_3.length co78,.int .i64 x179001_3] 25 (0,0)) (bL Bb.out) Bl.out (by simp));have n3_:=Am (KeepBut.trans (by repeat (first|(with_reducible first|exact HK.out|apply KeepBut.set_|apply keep_drewN|apply keep_drew|apply keep_alloc|refine keep_far ?_ Bg.out _|refine keep_far ?_ Bi.out _)|exact HK.out)) hk (.inl rfl));have n4_:=Am (hb);have n5_:=Am (hi);clear Ba Bc Bb HK HB HI0;revert n0_ n1_ n2_ n3_ n4_ n5_;intro Ba Bc Bb HK HB HI0;(try clear hb);(try clear hb2);(try clear hk);(try clear hi);have DG:=cz0 Bb.out;have DH:=cz1 Bb.out;have DI:=bF Bb.out 0;have DJ:=bF Bb.out 1;have p58:0≤(t199:Int):=of_decide_eq_true (by first|(with_reducible assumption)|assumption);have q58:(t199:Int)<((x179000_3.length:Int):Int):=of_decide_eq_true (by first|(with_reducible assumption)|assumption);obtain ⟨go58,co58,eo58,BC,gl58,cl58,HG58⟩:=Kd.R_form Ba.out (by omega);(first|cases eo58|(injection eo58 with ea_ en_ ec_;(first|subst ea_|(injection ea_ with ea_;subst ea_));subst ec_;clear en_));have GB58:=Am BC;have GG58:=Am HG58;clear BC gl58 HG58;obtain ⟨ce58,hcl58,hM58,hcc58,hfr58⟩:=Kd.R_elem Ba.out z40 (t199:Int) p58 q58;obtain rfl:=k40_openM hM58;have hx58_0:w79.cell? ⟨go58,(t199:Int).toNat * 4,none⟩=some (.int .i64 ((rd_T40 x179000_3 t199).f0)):=hcc58 0 _ rfl;have hx58_1:w79.cell? ⟨go58,(t199:Int).toNat * 4 + 1,none⟩=some (.int .i64 ((rd_T40 x179000_3 t199).f1)):=hcc58 1 _ rfl;have hx58_2:w79.cell? ⟨go58,(t199:Int).toNat * 4 + 2,none⟩=some (.int .i64 ((rd_T40 x179000_3 t199).f2)):=hcc58 2 _ rfl;have hx58_3:w79.cell? ⟨go58,(t199:Int).toNat * 4 + 3,none⟩=some (.bool ((rd_T40 x179000_3 t199).f3)):=hcc58 3 _ rfl;have hf58_0:w79.frozen? ⟨go58,(t199:Int).toNat * 4,none⟩=false:=hfr58 0;have hf58_1:w79.frozen? ⟨go58,(t199:Int).toNat * 4 + 1,none⟩=false:=hfr58 1;have hf58_2:w79.frozen? ⟨go58,(t199:Int).toNat * 4 + 2,none⟩=false:=hfr58 2;have hf58_3:w79.frozen? ⟨go58,(t199:Int).toNat * 4 + 3,none⟩=false:=hfr58 3;clear hcl58 hcc58 hfr58 hM58;replace p58:=eq_true p58;replace q58:=eq_true q58;have HX81:=Am (show Kd.R k40 40 w79 w.heap.size (fun _=>True) (.slice (some ⟨go58,0,none⟩) x179000_3.length co78) x179000_3 from (rL Ba.out));obtain ⟨ce81,hcl81,hM81,hcc81,hfr81⟩:=Kd.R_elem HX81.out z40 (t199:Int) (of_decide_eq_true (by first|(with_reducible assumption)|assumption)) (by have h_:(t199:Int)<((x179000_3.length:Int):Int):=of_decide_eq_true (by first|(with_reducible assumption)|assumption);first|exact h_|(have e_:=(Kd.R_reads' Ba.out).1;omega)|simpa using h_);obtain rfl:=k40_openM hM81;have HP81:=Kd.R_seg HX81.out (t199:Int) (of_decide_eq_true (by first|(with_reducible assumption)|assumption)) (by have h_:(t199:Int)<((x179000_3.length:Int):Int):=of_decide_eq_true (by first|(with_reducible assumption)|assumption);first|exact h_|(have e_:=(Kd.R_reads' Ba.out).1;omega)|simpa using h_) (seg:=[.bool false]) (j:=3) hcl81 hcc81 (show 4≤4 from by decide) (x':=(⟨(rd_T40 x179000_3 t199).f0,(rd_T40 x179000_3 t199).f1,(rd_T40 x179000_3 t199).f2,false⟩:S40)) (k40_mkM _ _ _ (⟨(rd_T40 x179000_3 t199).f0,(rd_T40 x179000_3 t199).f1,(rd_T40 x179000_3 t199).f2,false⟩:S40) ) (fun _ hk=>hk);have hx81_3:=hcc81 3 _ rfl;(try simp only [show (k40).sz=4 from rfl,Nat.mul_one,Nat.add_zero] at hx81_3);have hf81_3:=hfr81 3;(try simp only [show (k40).sz=4 from rfl,Nat.mul_one,Nat.add_zero] at hf81_3);clear hcl81 hcc81 hfr81 hM81)|((with_reducible refine gate_store (t:=4) (p:=60) rfl ?_);refine store_event (t:=4) (p:=60) (v:=?vo_w82) (w1:=(w79.setCell ⟨go58,(t199:Int).toNat * 4 + 3,none⟩ (.bool false))) ?hg ?ho ?hn ?hr ?_;(case ho=>rfl);(case hg=>rfl);(case hn=>rfl);(case hr=>first|(go_simp;done)|(go_simp;rfl));intro w82 hw;have hg:w79.grownBy w82 (some go58):=(by rw [hw];exact HP81.2);have hp_:Kd.R k40 40 w82 w.heap.size (fun _=>True) (.slice (some ⟨go58,0,none⟩) x179000_3.length co78) y201:=(by rw [hw,Ny201.out];exact HP81.1);clear HP81;have n0_:=Am (hp_);have n1_:=Am (blk_grown (g:=Bh) (o:=.cells #[.slice none 0 0,.int .i64 0] 25 (0,0)) (bL Bc.out) hg (Kd.R_ne Ba.out Bc.out (by decide)));have n2_:=Am (blk_grown (g:=Bf) (o:=.cells #[.slice (some ⟨go58,0,none⟩) x179000_3.length co78,.int .i64 x179001_3] 25 (0,0)) (bL Bb.out) hg (Kd.R_ne Ba.out Bb.out (by decide)));have n3_:=Am (IsS58.grown (by repeat (first|(with_reducible first|exact HI0.out|apply IsS58.alloc|apply IsS58.drewN|apply IsS58.drew|apply IsS58.set_1|refine IsS58.far ?_ Be.out _|refine IsS58.far ?_ Bd.out _)|exact HI0.out)) hg (IsS58.own_ne HI0.out Ba.out (by decide)));have n4_:=Am ((by rw [hw];exact bS (HB.out) (Nat.le_trans HL.out GB58.out):Below w0.heap.size w0 w82));have n5_:=Am (KeepBut.trans (by repeat (first|(with_reducible first|exact HK.out|apply KeepBut.set_|apply keep_drewN|apply keep_drew|apply keep_alloc|refine keep_far ?_ Bg.out _|refine keep_far ?_ Bi.out _)|exact HK.out)) (KeepBut.of_grown hg g) (Kd.R_base2 Ba.out));clear Ba Bc Bb HI0 HB HK;revert n0_ n1_ n2_ n3_ n4_ n5_;intro Ba Bc Bb HI0 HB HK;clear hg hw hp_)|((with_reducible refine gate_callee (f:=35) rfl ?_);refine goesL_ (some 62) rfl rfl Try.func35 (by kernel_rfl) rfl #[.pointer (some ⟨g,0,none⟩),.int .i64 2] rfl (by (try simp only [lM,lC,lN]);first|done|rfl|(simp only [lD,lT];rfl)) ?_;(with_reducible refine (spec_l6Rd_pick.calls kj41 g s0_0 t200 2 t202 t203 w0 _ ?side1 ?side2 A59.out).mono ?_);(case side1=>repeat (first|(with_reducible first|exact HI0.out|apply IsS58.alloc|apply IsS58.drewN|apply IsS58.drew|apply IsS58.set_1|refine IsS58.far ?_ Be.out _|refine IsS58.far ?_ Bd.out _)|exact HI0.out));(case side2=>repeat (first|(with_reducible first|exact HB.out|apply oA|apply pN|apply o1|refine bS ?_ (IsS58.ge HI0.out)|refine bS ?_ Bj.out|refine bS ?_ Bk.out)|exact HB.out));rintro e w83 ⟨rfl,hi,hb,hk⟩;refine ⟨_,rfl,?_⟩;have n0_:=Am (rM (Kd.R_keep (IsS58.apart (show IsS58 w0 _ g s0_0 t200 from by repeat (first|(with_reducible first|exact HI0.out|apply IsS58.alloc|apply IsS58.drewN|apply IsS58.drew|apply IsS58.set_1|refine IsS58.far ?_ Be.out _|refine IsS58.far ?_ Bd.out _)|exact HI0.out)) (rL Ba.out) (by decide)) hk (fun _ h=>h.2)) (fun _ h=>h.1));have n1_:=Am (KeepBut.blk hk (g':=Bh) (o:=.cells #[.slice none 0 0,.int .i64 0] 25 (0,0)) (bL Bc.out) Bn.out (by simp));have n2_:=Am (KeepBut.blk hk (g':=Bf) (o:=.cells #[.slice (some ⟨go58,0,none⟩) x179000_3.length co78,.int .i64 x179001_3] 25 (0,0)) (bL Bb.out) Bl.out (by simp));have n3_:=Am (KeepBut.trans (by repeat (first|(with_reducible first|exact HK.out|apply KeepBut.set_|apply keep_drewN|apply keep_drew|apply keep_alloc|refine keep_far ?_ Bg.out _|refine keep_far ?_ Bi.out _)|exact HK.out)) hk (.inl rfl));have n4_:=Am (hb);have n5_:=Am (hi);clear Ba Bc Bb HK HB HI0;revert n0_ n1_ n2_ n3_ n4_ n5_;intro Ba Bc Bb HK HB HI0;(try clear hb);(try clear hb2);(try clear hk);(try clear hi)))
           go_roundg kj41
           case measure=>have:=HK1.out;have:=Bs.out;have:=HK3.out;have:=BB.out;omega
           case rel=>exact ⟨(wrap64 (x4_1 - 1)),(t203),(y201),(x179001_3),(.slice (some ⟨go58,0,none⟩) x179000_3.length co78),(by first|rfl|(simp;done)|(simp [*];done)),H',⟨by have:=HK1.out;have:=Bs.out;have:=HK3.out;have:=BB.out;omega⟩,⟨by (with_reducible repeat (first|apply rA|apply rN|apply rD));exact Ba.out⟩,⟨by (with_reducible repeat (first|refine bN ?_ _|refine bD ?_|refine bA ?_ _));exact Bc.out⟩,⟨by (with_reducible repeat (first|refine bN ?_ _|refine bD ?_|refine bA ?_ _));exact Bb.out⟩,⟨by repeat (first|(with_reducible first|exact HI0.out|apply IsS58.alloc|apply IsS58.drewN|apply IsS58.drew|apply IsS58.set_1|refine IsS58.far ?_ Be.out _|refine IsS58.far ?_ Bd.out _)|exact HI0.out)⟩,⟨by repeat (first|(with_reducible first|exact HK.out|apply KeepBut.set_|apply keep_drewN|apply keep_drew|apply keep_alloc|refine keep_far ?_ Bg.out _|refine keep_far ?_ Bi.out _)|exact HK.out)⟩,⟨by repeat (first|(with_reducible first|exact HB.out|apply oA|apply pN|apply o1|refine bS ?_ (IsS58.ge HI0.out)|refine bS ?_ Bj.out|refine bS ?_ Bk.out)|exact HB.out)⟩⟩
          rw [if_pos c60] at H
          have c60b0:(t202 == 0)=true:=beq_iff_eq.mpr c60
          have c60b1:(t202 != 0)=false:=bne_eq_false_iff_eq.mpr c60
          clear c60
          replace H:=oC H
          obtain ⟨⟨t204,t207⟩,A610,H⟩:=H
          replace H:(spec_l92Queue.l0 kj41 (wrap64 (x4_1 - 1)) s0_0 t203 t204 t207)=some (r1,r2,r3):=H
          have A61:=Am A610
          clear A610
          have H':=Am H
          clear H
          have Fe:=Bp.out
          have Ff:=Bo.out
          have Fg:=Bl.out
          have Fh:=Bd.out
          have Dm:=cz0 Bb.out
          have Dn:=cz1 Bb.out
          have Do:=bF Bb.out 0
          have Dp:=bF Bb.out 1
          obtain ⟨Ao65,co65,eo65⟩:=Kd.R_slice Ba.out
          subst eo65
          go_wp2_with (first|((with_reducible refine gate_callee (f:=35) rfl ?_);refine goesL_ (some 55) rfl rfl Try.func35 (by kernel_rfl) rfl #[.pointer (some ⟨g,0,none⟩),.int .i64 (x179000_3.length:Int)] rfl (by (try simp only [lM,lC,lN]);first|done|rfl|(simp only [lD,lT];rfl)) ?_;(with_reducible refine (spec_l6Rd_pick.calls kj41 g s0_0 x1001_41 (x179000_3.length:Int) t199 t200 w0 _ ?side1 ?side2 A55.out).mono ?_);(case side1=>repeat (first|(with_reducible first|exact HI0.out|apply IsS58.alloc|apply IsS58.drewN|apply IsS58.drew|apply IsS58.set_1|refine IsS58.far ?_ Be.out _|refine IsS58.far ?_ Bd.out _)|exact HI0.out));(case side2=>repeat (first|(with_reducible first|exact HB.out|apply oA|apply pN|apply o1|refine bS ?_ (IsS58.ge HI0.out)|refine bS ?_ Bj.out|refine bS ?_ Bk.out)|exact HB.out));rintro e w66 ⟨rfl,hi,hb,hk⟩;refine ⟨_,rfl,?_⟩;have n0_:=Am (rM (Kd.R_keep (IsS58.apart (show IsS58 w0 _ g s0_0 x1001_41 from by repeat (first|(with_reducible first|exact HI0.out|apply IsS58.alloc|apply IsS58.drewN|apply IsS58.drew|apply IsS58.set_1|refine IsS58.far ?_ Be.out _|refine IsS58.far ?_ Bd.out _)|exact HI0.out)) (rL Ba.out) (by decide)) hk (fun _ h=>h.2)) (fun _ h=>h.1));have n1_:=Am (KeepBut.blk hk (g':=Bh) (o:=.cells #[.slice none 0 0,.int .i64 0] 25 (0,0)) (bL Bc.out) Bn.out (by simp));have n2_:=Am (KeepBut.blk hk (g':=Bf) (o:=.cells #[.slice Ao65 x179000_3.length co65,.int .i64 x179001_3] 25 (0,0)) (bL Bb.out) Bl.out (by simp));have n3_:=Am (KeepBut.trans (by repeat (first|(with_reducible first|exact HK.out|apply KeepBut.set_|apply keep_drewN|apply keep_drew|apply keep_alloc|refine keep_far ?_ Bg.out _|refine keep_far ?_ Bi.out _)|exact HK.out)) hk (.inl rfl));have n4_:=Am (hb);have n5_:=Am (hi);clear Ba Bc Bb HK HB HI0;revert n0_ n1_ n2_ n3_ n4_ n5_;intro Ba Bc Bb HK HB HI0;(try clear hb);(try clear hb2);(try clear hk);(try clear hi);have Dq:=cz0 Bb.out;have Dr:=cz1 Bb.out;have Ds:=bF Bb.out 0;have Dt:=bF Bb.out 1;have p58:0≤(t199:Int):=of_decide_eq_true (by first|(with_reducible assumption)|assumption);have q58:(t199:Int)<((x179000_3.length:Int):Int):=of_decide_eq_true (by first|(with_reducible assumption)|assumption);obtain ⟨go58,co58,eo58,BC,gl58,cl58,HG58⟩:=Kd.R_form Ba.out (by omega);(first|cases eo58|(injection eo58 with ea_ en_ ec_;(first|subst ea_|(injection ea_ with ea_;subst ea_));subst ec_;clear en_));have GB58:=Am BC;have GG58:=Am HG58;clear BC gl58 HG58;obtain ⟨ce58,hcl58,hM58,hcc58,hfr58⟩:=Kd.R_elem Ba.out z40 (t199:Int) p58 q58;obtain rfl:=k40_openM hM58;have hx58_0:w66.cell? ⟨go58,(t199:Int).toNat * 4,none⟩=some (.int .i64 ((rd_T40 x179000_3 t199).f0)):=hcc58 0 _ rfl;have hx58_1:w66.cell? ⟨go58,(t199:Int).toNat * 4 + 1,none⟩=some (.int .i64 ((rd_T40 x179000_3 t199).f1)):=hcc58 1 _ rfl;have hx58_2:w66.cell? ⟨go58,(t199:Int).toNat * 4 + 2,none⟩=some (.int .i64 ((rd_T40 x179000_3 t199).f2)):=hcc58 2 _ rfl;have hx58_3:w66.cell? ⟨go58,(t199:Int).toNat * 4 + 3,none⟩=some (.bool ((rd_T40 x179000_3 t199).f3)):=hcc58 3 _ rfl;have hf58_0:w66.frozen? ⟨go58,(t199:Int).toNat * 4,none⟩=false:=hfr58 0;have hf58_1:w66.frozen? ⟨go58,(t199:Int).toNat * 4 + 1,none⟩=false:=hfr58 1;have hf58_2:w66.frozen? ⟨go58,(t199:Int).toNat * 4 + 2,none⟩=false:=hfr58 2;have hf58_3:w66.frozen? ⟨go58,(t199:Int).toNat * 4 + 3,none⟩=false:=hfr58 3;clear hcl58 hcc58 hfr58 hM58;replace p58:=eq_true p58;replace q58:=eq_true q58;have HX68:=Am (show Kd.R k40 40 w66 w.heap.size (fun _=>True) (.slice (some ⟨go58,0,none⟩) x179000_3.length co65) x179000_3 from (rL Ba.out));obtain ⟨ce68,hcl68,hM68,hcc68,hfr68⟩:=Kd.R_elem HX68.out z40 (t199:Int) (of_decide_eq_true (by first|(with_reducible assumption)|assumption)) (by have h_:(t199:Int)<((x179000_3.length:Int):Int):=of_decide_eq_true (by first|(with_reducible assumption)|assumption);first|exact h_|(have e_:=(Kd.R_reads' Ba.out).1;omega)|simpa using h_);obtain rfl:=k40_openM hM68;have HP68:=Kd.R_seg HX68.out (t199:Int) (of_decide_eq_true (by first|(with_reducible assumption)|assumption)) (by have h_:(t199:Int)<((x179000_3.length:Int):Int):=of_decide_eq_true (by first|(with_reducible assumption)|assumption);first|exact h_|(have e_:=(Kd.R_reads' Ba.out).1;omega)|simpa using h_) (seg:=[.bool false]) (j:=3) hcl68 hcc68 (show 4≤4 from by decide) (x':=(⟨(rd_T40 x179000_3 t199).f0,(rd_T40 x179000_3 t199).f1,(rd_T40 x179000_3 t199).f2,false⟩:S40)) (k40_mkM _ _ _ (⟨(rd_T40 x179000_3 t199).f0,(rd_T40 x179000_3 t199).f1,(rd_T40 x179000_3 t199).f2,false⟩:S40) ) (fun _ hk=>hk);have hx68_3:=hcc68 3 _ rfl;(try simp only [show (k40).sz=4 from rfl,Nat.mul_one,Nat.add_zero] at hx68_3);have hf68_3:=hfr68 3;(try simp only [show (k40).sz=4 from rfl,Nat.mul_one,Nat.add_zero] at hf68_3);clear hcl68 hcc68 hfr68 hM68)|((with_reducible refine gate_store (t:=4) (p:=60) rfl ?_);refine store_event (t:=4) (p:=60) (v:=?vo_w69) (w1:=(w66.setCell ⟨go58,(t199:Int).toNat * 4 + 3,none⟩ (.bool false))) ?hg ?ho ?hn ?hr ?_;(case ho=>rfl);(case hg=>rfl);(case hn=>rfl);(case hr=>first|(go_simp;done)|(go_simp;rfl));intro w69 hw;have hg:w66.grownBy w69 (some go58):=(by rw [hw];exact HP68.2);have hp_:Kd.R k40 40 w69 w.heap.size (fun _=>True) (.slice (some ⟨go58,0,none⟩) x179000_3.length co65) y201:=(by rw [hw,Ny201.out];exact HP68.1);clear HP68;have n0_:=Am (hp_);have n1_:=Am (blk_grown (g:=Bh) (o:=.cells #[.slice none 0 0,.int .i64 0] 25 (0,0)) (bL Bc.out) hg (Kd.R_ne Ba.out Bc.out (by decide)));have n2_:=Am (blk_grown (g:=Bf) (o:=.cells #[.slice (some ⟨go58,0,none⟩) x179000_3.length co65,.int .i64 x179001_3] 25 (0,0)) (bL Bb.out) hg (Kd.R_ne Ba.out Bb.out (by decide)));have n3_:=Am (IsS58.grown (by repeat (first|(with_reducible first|exact HI0.out|apply IsS58.alloc|apply IsS58.drewN|apply IsS58.drew|apply IsS58.set_1|refine IsS58.far ?_ Be.out _|refine IsS58.far ?_ Bd.out _)|exact HI0.out)) hg (IsS58.own_ne HI0.out Ba.out (by decide)));have n4_:=Am ((by rw [hw];exact bS (HB.out) (Nat.le_trans HL.out GB58.out):Below w0.heap.size w0 w69));have n5_:=Am (KeepBut.trans (by repeat (first|(with_reducible first|exact HK.out|apply KeepBut.set_|apply keep_drewN|apply keep_drew|apply keep_alloc|refine keep_far ?_ Bg.out _|refine keep_far ?_ Bi.out _)|exact HK.out)) (KeepBut.of_grown hg g) (Kd.R_base2 Ba.out));clear Ba Bc Bb HI0 HB HK;revert n0_ n1_ n2_ n3_ n4_ n5_;intro Ba Bc Bb HI0 HB HK;clear hg hw hp_)|((with_reducible refine gate_callee (f:=35) rfl ?_);refine goesL_ (some 62) rfl rfl Try.func35 (by kernel_rfl) rfl #[.pointer (some ⟨g,0,none⟩),.int .i64 2] rfl (by (try simp only [lM,lC,lN]);first|done|rfl|(simp only [lD,lT];rfl)) ?_;(with_reducible refine (spec_l6Rd_pick.calls kj41 g s0_0 t200 2 t202 t203 w0 _ ?side1 ?side2 A59.out).mono ?_);(case side1=>repeat (first|(with_reducible first|exact HI0.out|apply IsS58.alloc|apply IsS58.drewN|apply IsS58.drew|apply IsS58.set_1|refine IsS58.far ?_ Be.out _|refine IsS58.far ?_ Bd.out _)|exact HI0.out));(case side2=>repeat (first|(with_reducible first|exact HB.out|apply oA|apply pN|apply o1|refine bS ?_ (IsS58.ge HI0.out)|refine bS ?_ Bj.out|refine bS ?_ Bk.out)|exact HB.out));rintro e w70 ⟨rfl,hi,hb,hk⟩;refine ⟨_,rfl,?_⟩;have n0_:=Am (rM (Kd.R_keep (IsS58.apart (show IsS58 w0 _ g s0_0 t200 from by repeat (first|(with_reducible first|exact HI0.out|apply IsS58.alloc|apply IsS58.drewN|apply IsS58.drew|apply IsS58.set_1|refine IsS58.far ?_ Be.out _|refine IsS58.far ?_ Bd.out _)|exact HI0.out)) (rL Ba.out) (by decide)) hk (fun _ h=>h.2)) (fun _ h=>h.1));have n1_:=Am (KeepBut.blk hk (g':=Bh) (o:=.cells #[.slice none 0 0,.int .i64 0] 25 (0,0)) (bL Bc.out) Bn.out (by simp));have n2_:=Am (KeepBut.blk hk (g':=Bf) (o:=.cells #[.slice (some ⟨go58,0,none⟩) x179000_3.length co65,.int .i64 x179001_3] 25 (0,0)) (bL Bb.out) Bl.out (by simp));have n3_:=Am (KeepBut.trans (by repeat (first|(with_reducible first|exact HK.out|apply KeepBut.set_|apply keep_drewN|apply keep_drew|apply keep_alloc|refine keep_far ?_ Bg.out _|refine keep_far ?_ Bi.out _)|exact HK.out)) hk (.inl rfl));have n4_:=Am (hb);have n5_:=Am (hi);clear Ba Bc Bb HK HB HI0;revert n0_ n1_ n2_ n3_ n4_ n5_;intro Ba Bc Bb HK HB HI0;(try clear hb);(try clear hb2);(try clear hk);(try clear hi);have Du:=cz0 Bb.out;have Dv:=cz1 Bb.out;have Dw:=bF Bb.out 0;have Dx:=bF Bb.out 1)|((with_reducible refine gate_callee (f:=39) rfl ?_);refine goesL_ (some 66) rfl rfl Try.func39 (by kernel_rfl) rfl #[.agg #[.slice (some ⟨go58,0,none⟩) x179000_3.length co65,.int .i64 x179001_3],.int .i64 t199] rfl (by (try simp only [lM,lC,lN]);first|done|rfl|(simp only [lD,lT];rfl)) ?_;(with_reducible refine (spec_l11Wake.calls (fun k_=>some k_=(.slice (some ⟨go58,0,none⟩) x179000_3.length co65:Value).ownBlock) (.slice (some ⟨go58,0,none⟩) x179000_3.length co65) y201 x179001_3 t199 t204 t207 w0 _ ?side1 ?side2 A61.out).mono ?_);(case side1=>repeat (first|(with_reducible first|exact HB.out|apply oA|apply pN|apply o1|refine bS ?_ (IsS58.ge HI0.out)|refine bS ?_ Bj.out|refine bS ?_ Bk.out)|exact HB.out));(case side2=>exact Kd.R_lower (Kd.R_tight rfl Ba.out) HL.out);rintro e w72 ⟨v205,rfl,ho0,hb,hkp⟩;refine ⟨_,rfl,?_⟩;have n0_:=Am (blk_kept (bL Bc.out) hkp (fun hs_=>(fun e_=>(Kd.R_ne Ba.out Bc.out (by decide)) e_) hs_));have n1_:=Am (blk_kept (bL Bb.out) hkp (fun hs_=>(fun e_=>(Kd.R_ne Ba.out Bb.out (by decide)) e_) hs_));have n2_:=Am (IsS58.kept (by repeat (first|(with_reducible first|exact HI0.out|apply IsS58.alloc|apply IsS58.drewN|apply IsS58.drew|apply IsS58.set_1|refine IsS58.far ?_ Be.out _|refine IsS58.far ?_ Bd.out _)|exact HI0.out)) hkp (fun hs_=>(fun e_=>(IsS58.own_ne HI0.out Ba.out (by decide)) e_) hs_));have n3_:=Am (rM (ok':=fun k_=>True) (Kd.R_raise (d:=k40) (b:=w0.heap.size) (b':=w.heap.size) (fun _ _ _ _ h_=>h_) ho0 (fun k_ e_=>Or.elim (ho0.1 k_ e_) (fun hs_=>(fun e_=>Kd.R_base Ba.out k_ e_.symm) hs_) (fun hn_=>Nat.le_trans (keep_size (w:=w) (g:=g) (row:=none) (by repeat (first|(with_reducible first|exact HK.out|apply KeepBut.set_|apply keep_drewN|apply keep_drew|apply keep_alloc|refine keep_far ?_ Bg.out _|refine keep_far ?_ Bi.out _)|exact HK.out))) hn_))) (fun k_ hk_=>trivial));have n4_:=Am (Kept.keepG (by repeat (first|(with_reducible first|exact HK.out|apply KeepBut.set_|apply keep_drewN|apply keep_drew|apply keep_alloc|refine keep_far ?_ Bg.out _|refine keep_far ?_ Bi.out _)|exact HK.out)) hkp (fun k_ hs_=>(fun e_=>.inr (Kd.R_base Ba.out k_ e_.symm)) hs_));have n5_:=Am (hb);clear Bc Bb HI0 HK HB Ba;revert n0_ n1_ n2_ n3_ n4_ n5_;intro Bc Bb HI0 BF HK HB;(try clear hb);(try clear hkp);(try clear ho0);obtain ⟨Ao73,co73,eo73⟩:=Kd.R_slice BF.out;subst eo73;have Dy:=cz0 Bb.out;have Dz:=cz1 Bb.out;have DA:=bF Bb.out 0;have DB:=bF Bb.out 1))
          go_roundg kj41
          case measure=>have:=HK1.out;have:=Bs.out;have:=HK3.out;have:=BB.out;omega
          case rel=>exact ⟨(wrap64 (x4_1 - 1)),(t203),(t204),(t207),(.slice Ao73 t204.length co73),(by first|rfl|(simp;done)|(simp [*];done)),H',⟨by have:=HK1.out;have:=Bs.out;have:=HK3.out;have:=BB.out;omega⟩,⟨by (with_reducible repeat (first|apply rA|apply rN|apply rD));exact rM (rF (p:=⟨Bf,1,none⟩) (rF (p:=⟨Bf,0,none⟩) (rT BF.out Bb.out (by decide)) (fun _ hk=>hk.2) (.slice Ao73 t204.length co73)) (fun _ hk=>hk.2) (.int .i64 t207)) (fun _ hk=>trivial)⟩,⟨by (with_reducible repeat (first|refine bN ?_ _|refine bD ?_|refine bA ?_ _|refine blk_far ?_ Bo.out _));exact Bc.out⟩,⟨by (with_reducible repeat (first|refine bN ?_ _|refine bD ?_|refine bA ?_ _));refine blk_put (cs:=#[.slice Ao73 t204.length co73,.int .i64 x179001_3]) ?_ 1 _ rfl;(with_reducible repeat (first|refine bN ?_ _|refine bD ?_|refine bA ?_ _));refine blk_put (cs:=#[.slice (some ⟨go58,0,none⟩) x179000_3.length co65,.int .i64 x179001_3]) ?_ 0 _ rfl;(with_reducible repeat (first|refine bN ?_ _|refine bD ?_|refine bA ?_ _));exact Bb.out⟩,⟨by repeat (first|(with_reducible first|exact HI0.out|apply IsS58.alloc|apply IsS58.drewN|apply IsS58.drew|apply IsS58.set_1|refine IsS58.far ?_ Be.out _|refine IsS58.far ?_ Bd.out _)|exact HI0.out)⟩,⟨by repeat (first|(with_reducible first|exact HK.out|apply KeepBut.set_|apply keep_drewN|apply keep_drew|apply keep_alloc|refine keep_far ?_ Bg.out _|refine keep_far ?_ Bi.out _)|exact HK.out)⟩,⟨by repeat (first|(with_reducible first|exact HB.out|apply oA|apply pN|apply o1|refine bS ?_ (IsS58.ge HI0.out)|refine bS ?_ Bj.out|refine bS ?_ Bk.out)|exact HB.out)⟩⟩
   rw [if_neg c12] at H
   have c12b0:decide (0<x4_1)=false:=decide_eq_false c12
   clear c12
   replace H:=oC H
   obtain ⟨⟨t208,t209⟩,A840,H⟩:=H
   replace H:(if t208=0 then ((some (([(-1),wrap64 (x179001_1 + 30),1000000,1000001]:List Int):List Int)).bind fun y210=>((spec_l6Rd_pick.f k1 s0_0 t209 4).bind fun bt213=>(if 0≤bt213.1 then (if bt213.1<(y210.length:Int) then (some (x179000_1,rd y210 bt213.1,bt213.2)) else (none)) else (none)))) else (if t208=1 then ((spec_l6Rd_pick.f k1 s0_0 t209 101).bind fun bt216=>((spec_l6Rd_pick.f k1 s0_0 bt216.2 8).bind fun bt218=>((some (([0,1000000,999990]:List Int):List Int)).bind fun y220=>((spec_l6Rd_pick.f k1 s0_0 bt218.2 3).bind fun bt223=>(if 0≤bt223.1 then (if bt223.1<(y220.length:Int) then (if x179000_1.length<4398046511104 then (some ((x179000_1 ++ [(⟨bt216.1,bt218.1,rd y220 bt223.1,true⟩:S40)]),x179001_1,bt223.2)) else (none)) else (none)) else (none)))))) else (some (x179000_1,x179001_1,t209))))=some (r1,r2,r3):=H
   have A84:=Am A840
   clear A840
   by_cases c85:t208=0
   ·rw [if_pos c85] at H
    have c85b0:(t208 == 0)=true:=beq_iff_eq.mpr c85
    have c85b1:(t208 != 0)=false:=bne_eq_false_iff_eq.mpr c85
    clear c85
    obtain ⟨y210,hy210⟩:∃ y_:List Int,y_=(([(-1),wrap64 (x179001_1 + 30),1000000,1000001]:List Int)):=⟨_,rfl⟩
    replace H:((spec_l6Rd_pick.f k1 s0_0 t209 4).bind fun bt213=>(if 0≤bt213.1 then (if bt213.1<(y210.length:Int) then (some (x179000_1,rd y210 bt213.1,bt213.2)) else (none)) else (none)))=some (r1,r2,r3):=by first|(rw [hy210];with_reducible exact H)|(have H2_:=(Option.bind_some _ _).symm.trans H;rw [hy210];with_reducible exact H2_)|(have H2_:=(Option.bind_some _ _).symm.trans H;with_reducible exact H2_)|with_reducible exact H|(rw [hy210];exact H)|exact H
    have Ny210:=Am hy210
    clear hy210
    replace H:=oC H
    obtain ⟨⟨t213,t214⟩,A860,H⟩:=H
    replace H:(if 0≤t213 then (if t213<(y210.length:Int) then (some (x179000_1,rd y210 t213,t214)) else (none)) else (none))=some (r1,r2,r3):=H
    have A86:=Am A860
    clear A860
    by_cases c87:0≤t213
    rotate_left
    ·rw [if_neg c87] at H
     exact absurd H (by simp)
    rw [if_pos c87] at H
    have c87b0:decide (0≤t213)=true:=decide_eq_true c87
    clear c87
    by_cases c88:t213<(y210.length:Int)
    rotate_left
    ·rw [if_neg c88] at H
     exact absurd H (by simp)
    rw [if_pos c88] at H
    have c88b0:decide (t213<(y210.length:Int))=true:=decide_eq_true c88
    clear c88
    simp only [Option.some.injEq,Prod.mk.injEq] at H
    obtain ⟨rfl,rfl,rfl⟩:=H
    try go_wp2_with (first|((with_reducible refine gate_callee (f:=35) rfl ?_);refine goesL_ (some 68) rfl rfl Try.func35 (by kernel_rfl) rfl #[.pointer (some ⟨g,0,none⟩),.int .i64 24] rfl (by (try simp only [lM,lC,lN]);first|done|rfl|(simp only [lD,lT];rfl)) ?_;(with_reducible refine (spec_l6Rd_pick.calls k1 g s0_0 x1001_1 24 t208 t209 w0 _ ?side1 ?side2 A84.out).mono ?_);(case side1=>repeat (first|(with_reducible first|exact HI0.out|apply IsS58.alloc|apply IsS58.drewN|apply IsS58.drew|apply IsS58.set_1|refine IsS58.far ?_ Be.out _|refine IsS58.far ?_ Bd.out _)|exact HI0.out));(case side2=>repeat (first|(with_reducible first|exact HB.out|apply oA|apply pN|apply o1|refine bS ?_ (IsS58.ge HI0.out)|refine bS ?_ Bj.out|refine bS ?_ Bk.out)|exact HB.out));rintro e w89 ⟨rfl,hi,hb,hk⟩;refine ⟨_,rfl,?_⟩;have n0_:=Am (rM (Kd.R_keep (IsS58.apart (show IsS58 w0 _ g s0_0 x1001_1 from by repeat (first|(with_reducible first|exact HI0.out|apply IsS58.alloc|apply IsS58.drewN|apply IsS58.drew|apply IsS58.set_1|refine IsS58.far ?_ Be.out _|refine IsS58.far ?_ Bd.out _)|exact HI0.out)) (rL Ba.out) (by decide)) hk (fun _ h=>h.2)) (fun _ h=>h.1));have n1_:=Am (KeepBut.blk hk (g':=Bh) (o:=.cells #[.slice none 0 0,.int .i64 0] 25 (0,0)) (bL Bc.out) Bn.out (by simp));have n2_:=Am (KeepBut.blk hk (g':=Bf) (o:=.cells #[u179000,.int .i64 x179001_1] 25 (0,0)) (bL Bb.out) Bl.out (by simp));have n3_:=Am (KeepBut.trans (by repeat (first|(with_reducible first|exact HK.out|apply KeepBut.set_|apply keep_drewN|apply keep_drew|apply keep_alloc|refine keep_far ?_ Bg.out _|refine keep_far ?_ Bi.out _)|exact HK.out)) hk (.inl rfl));have n4_:=Am (hb);have n5_:=Am (hi);clear Ba Bc Bb HK HB HI0;revert n0_ n1_ n2_ n3_ n4_ n5_;intro Ba Bc Bb HK HB HI0;(try clear hb);(try clear hb2);(try clear hk);(try clear hi)))
    have pi215:(0≤(t213:Int))=True:=eq_true (of_decide_eq_true (by first|(with_reducible assumption)|assumption))
    have qi215:(t213<(y210.length:Int))=True:=eq_true (of_decide_eq_true (by first|(with_reducible assumption)|assumption))
    have n0_:=Am (rD Ba.out)
    have n1_:=Am (bD Bc.out)
    have n2_:=Am (bD Bb.out)
    have n3_:=Am (IsS58.drew HI0.out)
    have n4_:=Am (keep_drew HK.out)
    have n5_:=Am (o1 HB.out)
    clear Ba
    clear Bc
    clear Bb
    clear HI0
    clear HK
    clear HB
    have Ba:=n0_
    have Bc:=n1_
    have Bb:=n2_
    have HI0:=n3_
    have HK:=n4_
    have HB:=n5_
    clear n0_ n1_ n2_ n3_ n4_ n5_
    refine start_ (n:=10) (S:=fun w'=>w'.cell? ⟨Bf,0,none⟩=some (u179000)∧w'.cell? ⟨Bf,1,none⟩=some (.int .i64 x179001_1)) (ds:=[9]) z34q0 (by kernel_rfl) rfl rfl ⟨(bC Bb.out 0).trans rfl,(bC Bb.out 1).trans rfl⟩ (fun hHeld=>?_);refine with_st spec_l92Queue.tab19 spec_l92Queue.bits19 (fun _ _ _ _ _ h=>h) (fun HT_=>?_)
    generalize w89.drew=w90 at Ba Bc Bb HI0 HK HB hHeld ⊢
    refine pS 0 71 z34q11 HT_ rfl rfl (by kernel_rfl) (by rfl) (by intro w';go_simp;with_reducible rfl) (by simp only [Act.put,lA,lZ,lS,iw,jw];rfl) ?_
    refine pS 4 75 z34q12 HT_ rfl rfl (by kernel_rfl) (by rfl) (by intro w';go_simp;with_reducible rfl) (by simp only [Act.put,lA,lZ,lS,iw,jw];rfl) ?_
    refine tS 1 72 z34q13 HT_ hHeld rfl rfl (by kernel_rfl) (by rfl) (by rintro w' ⟨s0,s1⟩;go_simp;with_reducible rfl) (by simp only [Act.put,lA,lZ,lS,iw,jw];rfl) ?_
    refine pS 2 73 z34q14 HT_ rfl rfl (by kernel_rfl) (by rfl) (by intro w';go_simp;with_reducible rfl) (by simp only [Act.put,lA,lZ,lS,iw,jw];rfl) ?_
    refine join_ (σ:=Value × Addr) 4 z34q15 (fun s_=>[(74,s_.1),(76,.int .i64 t213)]) (fun s_ w'=>(w'.cell? ⟨Bf,0,none⟩=some (u179000)∧w'.cell? ⟨Bf,1,none⟩=some (.int .i64 x179001_1))∧(Kd.R (Kd.int .i64) 3 w' w.heap.size (fun _=>True) s_.1 y210)∧(Kd.R k40 40 w' w.heap.size (fun _=>True) u179000 x179000_1)∧(∃ c_,(s_.1:Value)=.slice (some s_.2) y210.length c_)∧(w'.heap[Bh]?=some (.cells #[.slice none 0 0,.int .i64 0] 25 (0,0)))∧(w'.heap[Bf]?=some (.cells #[u179000,.int .i64 x179001_1] 25 (0,0)))∧(IsS58 w0 w' g s0_0 t214)∧(KeepBut w w' g none)∧(Below w0.heap.size w0 w')) ?_ ?_
    rotate_left
    ·intro hCont
     refine two_ (i:=3) (j:=5) (Ni:=some 74) (Nj:=some 76) z34q16 z34q17 rfl rfl rfl rfl (two_of HT_.out (by kernel_rfl)) (by decide) (by decide) (fun K hK=>?_) (fun K hK=>?_)
     ·skip
      refine Kd.R_lit_step (Kd.int .i64) _ 3 ?hg (N:=74) ?hd (xs:=([(-1),wrap64 (x179001_1 + 30),1000000,1000001]:List Int)) (inner:=[.int .i64 (-1),.int .i64 (wrap64 (x179001_1 + 30)),.int .i64 1000000,.int .i64 1000001]) (ok:=fun _=>True) (okp:=fun _=>True) ?hr ?hp (fun _ hk=>hk) trivial (Below.refl _ _) (Nat.le_refl _) (by simp) ?_;(case hd=>rfl);(case hg=>rfl);(case hr=>first|(go_simp;done)|(go_simp;rfl));(case hp=>exact (Reps.one (show Kd.M (Kd.int .i64) _ _ _ (-1) [.int .i64 (-1)] from rfl) (Reps.one (show Kd.M (Kd.int .i64) _ _ _ (wrap64 (x179001_1 + 30)) [.int .i64 (wrap64 (x179001_1 + 30))] from rfl) (Reps.one (show Kd.M (Kd.int .i64) _ _ _ 1000000 [.int .i64 1000000] from rfl) (Reps.one (show Kd.M (Kd.int .i64) _ _ _ 1000001 [.int .i64 1000001] from rfl) (Reps.none _ _))))))
      intro v211 w91 ho92 hb hg_ hnew_
      clear hg_ hnew_
      (first|rw [← Ny210.out] at ho92|(simp only [Int.reduceToNat] at ho92;rw [← Ny210.out] at ho92))
      have n0_:=Am (rB (rL Ba.out) hb)
      have n1_:=Am (Kd.R_lower ho92 (keep_size (w:=w) (g:=g) (row:=none) (by repeat (first|(with_reducible first|exact HK.out|apply KeepBut.set_|apply keep_drewN|apply keep_drew|apply keep_alloc|refine keep_far ?_ Bg.out _|refine keep_far ?_ Bi.out _)|exact HK.out))))
      have n2_:=Am (bX Bc.out hb)
      have n3_:=Am (bX Bb.out hb)
      have n4_:=Am (IsS58.below (by repeat (first|(with_reducible first|exact HI0.out|apply IsS58.alloc|apply IsS58.drewN|apply IsS58.drew|apply IsS58.set_1|refine IsS58.far ?_ Be.out _|refine IsS58.far ?_ Bd.out _)|exact HI0.out)) hb)
      have n5_:=Am (KeepBut.trans (by repeat (first|(with_reducible first|exact HK.out|apply KeepBut.set_|apply keep_drewN|apply keep_drew|apply keep_alloc|refine keep_far ?_ Bg.out _|refine keep_far ?_ Bi.out _)|exact HK.out)) (KeepBut.of_below hb g none) (.inl rfl))
      have n6_:=Am (bP (by repeat (first|(with_reducible first|exact HB.out|apply oA|apply pN|apply o1|refine bS ?_ (IsS58.ge HI0.out)|refine bS ?_ Bj.out|refine bS ?_ Bk.out)|exact HB.out)) hb)
      clear Ba
      clear Bc
      clear Bb
      clear HI0
      clear HK
      clear HB
      have Ba:=n0_
      have Bq:=n1_
      have Bc:=n2_
      have Bb:=n3_
      have HI0:=n4_
      have HK:=n5_
      have HB:=n6_
      clear n0_ n1_ n2_ n3_ n4_ n5_ n6_
      clear hb ho92
      obtain ⟨Ao93,co93,eo93⟩:=Kd.R_slice Bq.out
      subst eo93
      obtain ⟨ado93,fo93,_⟩:=Kd.at_int (Kd.R_reads' Bq.out).2.2 0 (by decide) (by rw [Ny210.out];simp)
      cases fo93
      refine hK.out _ _ ⟨(bC Bb.out 0).trans rfl,(bC Bb.out 1).trans rfl⟩ (fun hHeld=>?_)
      clear hK K
      refine norm_ (by show Act.put _ (some 74) _=_;simp only [Act.put,lA,lZ,lS,iw,jw];rfl) ?_
      refine oS 5 76 z34q15 HT_ rfl rfl (by kernel_rfl) (by decide) (fun K hK=>?_)
      refine goes_ Try.func35 (by kernel_rfl) rfl #[.pointer (some ⟨g,0,none⟩),.int .i64 4] (by rfl) rfl rfl (by (try simp only [lM,lC,lN]);first|done|rfl|(simp only [lD,lT];rfl)) ?_
      with_reducible refine (spec_l6Rd_pick.calls k1 g s0_0 t209 4 t213 t214 w0 _ ?side1 ?side2 A86.out).mono ?_
      (case side1=>repeat (first|(with_reducible first|exact HI0.out|apply IsS58.alloc|apply IsS58.drewN|apply IsS58.drew|apply IsS58.set_1|refine IsS58.far ?_ Be.out _|refine IsS58.far ?_ Bd.out _)|exact HI0.out))
      (case side2=>repeat (first|(with_reducible first|exact HB.out|apply oA|apply pN|apply o1|refine bS ?_ (IsS58.ge HI0.out)|refine bS ?_ Bj.out|refine bS ?_ Bk.out)|exact HB.out))
      rintro e w94 ⟨rfl,hi,hb,hk⟩
      refine ⟨_,rfl,?_⟩
      have n0_:=Am (rM (Kd.R_keep (IsS58.apart (show IsS58 w0 _ g s0_0 t209 from by repeat (first|(with_reducible first|exact HI0.out|apply IsS58.alloc|apply IsS58.drewN|apply IsS58.drew|apply IsS58.set_1|refine IsS58.far ?_ Be.out _|refine IsS58.far ?_ Bd.out _)|exact HI0.out)) (rL Ba.out) (by decide)) hk (fun _ h=>h.2)) (fun _ h=>h.1))
      have n1_:=Am (KeepBut.blk hk (g':=Bh) (o:=.cells #[.slice none 0 0,.int .i64 0] 25 (0,0)) (bL Bc.out) Bn.out (by simp))
      have n2_:=Am (KeepBut.blk hk (g':=Bf) (o:=.cells #[u179000,.int .i64 x179001_1] 25 (0,0)) (bL Bb.out) Bl.out (by simp))
      have n3_:=Am (rM (Kd.R_keep (IsS58.apart (show IsS58 w0 _ g s0_0 t209 from by repeat (first|(with_reducible first|exact HI0.out|apply IsS58.alloc|apply IsS58.drewN|apply IsS58.drew|apply IsS58.set_1|refine IsS58.far ?_ Be.out _|refine IsS58.far ?_ Bd.out _)|exact HI0.out)) (rL Bq.out) (by decide)) hk (fun _ h=>h.2)) (fun _ h=>h.1))
      have n4_:=Am (KeepBut.trans (by repeat (first|(with_reducible first|exact HK.out|apply KeepBut.set_|apply keep_drewN|apply keep_drew|apply keep_alloc|refine keep_far ?_ Bg.out _|refine keep_far ?_ Bi.out _)|exact HK.out)) hk (.inl rfl))
      have n5_:=Am (hb)
      have n6_:=Am (hi)
      clear Ba
      clear Bc
      clear Bb
      clear Bq
      clear HK
      clear HB
      clear HI0
      have Ba:=n0_
      have Bc:=n1_
      have Bb:=n2_
      have Bq:=n3_
      have HK:=n4_
      have HB:=n5_
      have HI0:=n6_
      clear n0_ n1_ n2_ n3_ n4_ n5_ n6_
      (try clear hb)
      (try clear hb2)
      (try clear hk)
      (try clear hi)
      refine hK.out _ _ ⟨(bC Bb.out 0).trans rfl,(bC Bb.out 1).trans rfl⟩ (fun hHeld=>?_)
      clear hK K
      refine norm_ (by show Act.put _ (some 76) _=_;simp only [Act.put,lA,lZ,lS,iw,jw];rfl) ?_
      exact norm_ (by simp only [putAll,Act.put,lA,lZ,lS]) (hCont (.slice (some ado93) y210.length co93,ado93) _ ⟨hHeld,(rL Bq.out),(rL Ba.out),⟨_,rfl⟩,(bL Bc.out),(bL Bb.out),(by repeat (first|(with_reducible first|exact HI0.out|apply IsS58.alloc|apply IsS58.drewN|apply IsS58.drew|apply IsS58.set_1|refine IsS58.far ?_ Be.out _|refine IsS58.far ?_ Bd.out _)|exact HI0.out)),(by repeat (first|(with_reducible first|exact HK.out|apply KeepBut.set_|apply keep_drewN|apply keep_drew|apply keep_alloc|refine keep_far ?_ Bg.out _|refine keep_far ?_ Bi.out _)|exact HK.out)),(by repeat (first|(with_reducible first|exact HB.out|apply oA|apply pN|apply o1|refine bS ?_ (IsS58.ge HI0.out)|refine bS ?_ Bj.out|refine bS ?_ Bk.out)|exact HB.out))⟩)
     ·skip
      refine goes_ Try.func35 (by kernel_rfl) rfl #[.pointer (some ⟨g,0,none⟩),.int .i64 4] (by rfl) rfl rfl (by (try simp only [lM,lC,lN]);first|done|rfl|(simp only [lD,lT];rfl)) ?_
      with_reducible refine (spec_l6Rd_pick.calls k1 g s0_0 t209 4 t213 t214 w0 _ ?side1 ?side2 A86.out).mono ?_
      (case side1=>repeat (first|(with_reducible first|exact HI0.out|apply IsS58.alloc|apply IsS58.drewN|apply IsS58.drew|apply IsS58.set_1|refine IsS58.far ?_ Be.out _|refine IsS58.far ?_ Bd.out _)|exact HI0.out))
      (case side2=>repeat (first|(with_reducible first|exact HB.out|apply oA|apply pN|apply o1|refine bS ?_ (IsS58.ge HI0.out)|refine bS ?_ Bj.out|refine bS ?_ Bk.out)|exact HB.out))
      rintro e w91 ⟨rfl,hi,hb,hk⟩
      refine ⟨_,rfl,?_⟩
      have n0_:=Am (rM (Kd.R_keep (IsS58.apart (show IsS58 w0 _ g s0_0 t209 from by repeat (first|(with_reducible first|exact HI0.out|apply IsS58.alloc|apply IsS58.drewN|apply IsS58.drew|apply IsS58.set_1|refine IsS58.far ?_ Be.out _|refine IsS58.far ?_ Bd.out _)|exact HI0.out)) (rL Ba.out) (by decide)) hk (fun _ h=>h.2)) (fun _ h=>h.1))
      have n1_:=Am (KeepBut.blk hk (g':=Bh) (o:=.cells #[.slice none 0 0,.int .i64 0] 25 (0,0)) (bL Bc.out) Bn.out (by simp))
      have n2_:=Am (KeepBut.blk hk (g':=Bf) (o:=.cells #[u179000,.int .i64 x179001_1] 25 (0,0)) (bL Bb.out) Bl.out (by simp))
      have n3_:=Am (KeepBut.trans (by repeat (first|(with_reducible first|exact HK.out|apply KeepBut.set_|apply keep_drewN|apply keep_drew|apply keep_alloc|refine keep_far ?_ Bg.out _|refine keep_far ?_ Bi.out _)|exact HK.out)) hk (.inl rfl))
      have n4_:=Am (hb)
      have n5_:=Am (hi)
      clear Ba
      clear Bc
      clear Bb
      clear HK
      clear HB
      clear HI0
      have Ba:=n0_
      have Bc:=n1_
      have Bb:=n2_
      have HK:=n3_
      have HB:=n4_
      have HI0:=n5_
      clear n0_ n1_ n2_ n3_ n4_ n5_
      (try clear hb)
      (try clear hb2)
      (try clear hk)
      (try clear hi)
      refine hK.out _ _ ⟨(bC Bb.out 0).trans rfl,(bC Bb.out 1).trans rfl⟩ (fun hHeld=>?_)
      clear hK K
      refine norm_ (by show Act.put _ (some 76) _=_;simp only [Act.put,lA,lZ,lS,iw,jw];rfl) ?_
      refine oS 3 74 z34q15 HT_ rfl rfl (by kernel_rfl) (by decide) (fun K hK=>?_)
      refine Kd.R_lit_step (Kd.int .i64) _ 3 ?hg (N:=74) ?hd (xs:=([(-1),wrap64 (x179001_1 + 30),1000000,1000001]:List Int)) (inner:=[.int .i64 (-1),.int .i64 (wrap64 (x179001_1 + 30)),.int .i64 1000000,.int .i64 1000001]) (ok:=fun _=>True) (okp:=fun _=>True) ?hr ?hp (fun _ hk=>hk) trivial (Below.refl _ _) (Nat.le_refl _) (by simp) ?_;(case hd=>rfl);(case hg=>rfl);(case hr=>first|(go_simp;done)|(go_simp;rfl));(case hp=>exact (Reps.one (show Kd.M (Kd.int .i64) _ _ _ (-1) [.int .i64 (-1)] from rfl) (Reps.one (show Kd.M (Kd.int .i64) _ _ _ (wrap64 (x179001_1 + 30)) [.int .i64 (wrap64 (x179001_1 + 30))] from rfl) (Reps.one (show Kd.M (Kd.int .i64) _ _ _ 1000000 [.int .i64 1000000] from rfl) (Reps.one (show Kd.M (Kd.int .i64) _ _ _ 1000001 [.int .i64 1000001] from rfl) (Reps.none _ _))))))
      intro v211 w92 ho93 hb hg_ hnew_
      clear hg_ hnew_
      (first|rw [← Ny210.out] at ho93|(simp only [Int.reduceToNat] at ho93;rw [← Ny210.out] at ho93))
      have n0_:=Am (rB (rL Ba.out) hb)
      have n1_:=Am (Kd.R_lower ho93 (keep_size (w:=w) (g:=g) (row:=none) (by repeat (first|(with_reducible first|exact HK.out|apply KeepBut.set_|apply keep_drewN|apply keep_drew|apply keep_alloc|refine keep_far ?_ Bg.out _|refine keep_far ?_ Bi.out _)|exact HK.out))))
      have n2_:=Am (bX Bc.out hb)
      have n3_:=Am (bX Bb.out hb)
      have n4_:=Am (IsS58.below (by repeat (first|(with_reducible first|exact HI0.out|apply IsS58.alloc|apply IsS58.drewN|apply IsS58.drew|apply IsS58.set_1|refine IsS58.far ?_ Be.out _|refine IsS58.far ?_ Bd.out _)|exact HI0.out)) hb)
      have n5_:=Am (KeepBut.trans (by repeat (first|(with_reducible first|exact HK.out|apply KeepBut.set_|apply keep_drewN|apply keep_drew|apply keep_alloc|refine keep_far ?_ Bg.out _|refine keep_far ?_ Bi.out _)|exact HK.out)) (KeepBut.of_below hb g none) (.inl rfl))
      have n6_:=Am (bP (by repeat (first|(with_reducible first|exact HB.out|apply oA|apply pN|apply o1|refine bS ?_ (IsS58.ge HI0.out)|refine bS ?_ Bj.out|refine bS ?_ Bk.out)|exact HB.out)) hb)
      clear Ba
      clear Bc
      clear Bb
      clear HI0
      clear HK
      clear HB
      have Ba:=n0_
      have Bq:=n1_
      have Bc:=n2_
      have Bb:=n3_
      have HI0:=n4_
      have HK:=n5_
      have HB:=n6_
      clear n0_ n1_ n2_ n3_ n4_ n5_ n6_
      clear hb ho93
      obtain ⟨Ao94,co94,eo94⟩:=Kd.R_slice Bq.out
      subst eo94
      obtain ⟨ado94,fo94,_⟩:=Kd.at_int (Kd.R_reads' Bq.out).2.2 0 (by decide) (by rw [Ny210.out];simp)
      cases fo94
      refine hK.out _ _ ⟨(bC Bb.out 0).trans rfl,(bC Bb.out 1).trans rfl⟩ (fun hHeld=>?_)
      clear hK K
      refine norm_ (by show Act.put _ (some 74) _=_;simp only [Act.put,lA,lZ,lS,iw,jw];rfl) ?_
      exact norm_ (by simp only [putAll,Act.put,lA,lZ,lS]) (hCont (.slice (some ado94) y210.length co94,ado94) _ ⟨hHeld,(rL Bq.out),(rL Ba.out),⟨_,rfl⟩,(bL Bc.out),(bL Bb.out),(by repeat (first|(with_reducible first|exact HI0.out|apply IsS58.alloc|apply IsS58.drewN|apply IsS58.drew|apply IsS58.set_1|refine IsS58.far ?_ Be.out _|refine IsS58.far ?_ Bd.out _)|exact HI0.out)),(by repeat (first|(with_reducible first|exact HK.out|apply KeepBut.set_|apply keep_drewN|apply keep_drew|apply keep_alloc|refine keep_far ?_ Bg.out _|refine keep_far ?_ Bi.out _)|exact HK.out)),(by repeat (first|(with_reducible first|exact HB.out|apply oA|apply pN|apply o1|refine bS ?_ (IsS58.ge HI0.out)|refine bS ?_ Bj.out|refine bS ?_ Bk.out)|exact HB.out))⟩)
    rintro ⟨v211,adz_v211⟩ w95 ⟨hS_,h0_,h1_,h2_,h3_,h4_,h5_,h6_,h7_⟩
    have n0_:Aside0 (Kd.R (Kd.int .i64) 3 w95 w.heap.size (fun _=>True) v211 y210):=⟨h0_⟩
    have n1_:Aside0 (Kd.R k40 40 w95 w.heap.size (fun _=>True) u179000 x179000_1):=⟨h1_⟩
    have n2_:Aside0 (∃ c_,(v211:Value)=.slice (some adz_v211) y210.length c_):=⟨h2_⟩
    have n3_:Aside0 (w95.heap[Bh]?=some (.cells #[.slice none 0 0,.int .i64 0] 25 (0,0))):=⟨h3_⟩
    have n4_:Aside0 (w95.heap[Bf]?=some (.cells #[u179000,.int .i64 x179001_1] 25 (0,0))):=⟨h4_⟩
    have n5_:Aside0 (IsS58 w0 w95 g s0_0 t214):=⟨h5_⟩
    have n6_:Aside0 (KeepBut w w95 g none):=⟨h6_⟩
    have n7_:Aside0 (Below w0.heap.size w0 w95):=⟨h7_⟩
    clear Ba
    clear Bc
    clear Bb
    clear HI0
    clear HK
    clear HB
    clear h0_ h1_ h2_ h3_ h4_ h5_ h6_ h7_
    have Bq:=n0_
    have Ba:=n1_
    have HA_HO212:=n2_
    have Bc:=n3_
    have Bb:=n4_
    have HI0:=n5_
    have HK:=n6_
    have HB:=n7_
    clear n0_ n1_ n2_ n3_ n4_ n5_ n6_ n7_
    have hHeld:w95.cell? ⟨Bf,0,none⟩=some (u179000)∧w95.cell? ⟨Bf,1,none⟩=some (.int .i64 x179001_1):=hS_
    obtain ⟨co96,eo96⟩:=HA_HO212.out
    clear HA_HO212
    subst eo96
    refine norm_ (by simp only [putAll,Act.put,lA,lZ,lS];rfl) ?_
    refine pS 6 77 z34q7 HT_ rfl rfl (by kernel_rfl) (by rfl) (by intro w';go_simp;with_reducible rfl) (by simp only [Act.put,lA,lZ,lS,iw,jw];rfl) ?_
    refine oS 7 78 z34q8 HT_ rfl rfl (by kernel_rfl) (by decide) (fun K hK=>?_)
    (have p215:0≤(t213:Int):=of_decide_eq_true (by first|(with_reducible assumption)|assumption);have q215:t213<(y210.length:Int):=of_decide_eq_true (by first|(with_reducible assumption)|assumption);obtain ⟨ad215,e215,hx215_0⟩:=Kd.at_int (Kd.R_reads' Bq.out).2.2 t213 p215 q215;obtain rfl:adz_v211=ad215:=(by injection e215))
    refine value_ (w1:=?_) (v:=?_) (by rfl) rfl ?_ ?_
    rotate_left 2
    ·go_simp
     constructor
     ·rfl
     ·rfl
    clear hx215_0
    refine hK.out _ _ ⟨(bC Bb.out 0).trans rfl,(bC Bb.out 1).trans rfl⟩ (fun hHeld=>?_)
    clear hK K
    refine norm_ (by show Act.put _ (some 78) _=_;simp only [Act.put,lA,lZ,lS,iw,jw];rfl) ?_
    refine pS 8 79 z34q9 HT_ rfl rfl (by kernel_rfl) (by rfl) (by intro w';go_simp;with_reducible rfl) (by simp only [Act.put,lA,lZ,lS,iw,jw];rfl) ?_
    refine last_ (i:=9) (N:=none) z34q10 rfl rfl (one_of HT_.out (by kernel_rfl)) (by decide) (fun K hK=>?_)
    have hs97:=cz1 Bb.out
    have hfs97:=bF Bb.out 1
    have hns97_0:=Bo.out
    have hms97_0:=Bp.out
    refine skip_ (w1:=?_) (by rfl) rfl ?_ ?_
    rotate_left;(go_simp;rfl)
    refine hK.out _ _ ?_
    clear hK K
    refine done_ (done_of HT_.out (by kernel_rfl)) ?_
    have Fm:=Bp.out
    have Fn:=Bo.out
    have Fo:=Bl.out
    have Fp:=Bd.out
    have BX:=cz0 Bb.out
    have BY:=cz1 Bb.out
    have BZ:=bF Bb.out 0
    have B0:=bF Bb.out 1
    obtain ⟨Ao101,co101,eo101⟩:=Kd.R_slice Ba.out
    subst eo101
    have DK:=Bn.out
    have DL:=Be.out
    have B1:=cz0 Bc.out
    have B2:=cz1 Bc.out
    have B3:=bF Bc.out 0
    have B4:=bF Bc.out 1
    try go_wp2
    refine bodyPost_ret (results_cell_row rfl _ _ Bh 25 #[.slice Ao101 x179000_1.length co101,.int .i64 (rd y210 t213)] (0,0) _ rfl (by (with_reducible repeat (first|refine bN ?_ _|refine bD ?_|refine bA ?_ _));refine blk_put (cs:=#[.slice Ao101 x179000_1.length co101,.int .i64 0]) ?_ 1 _ rfl;(with_reducible repeat (first|refine bN ?_ _|refine bD ?_|refine bA ?_ _));refine blk_put (cs:=#[.slice none 0 0,.int .i64 0]) ?_ 0 _ rfl;(with_reducible repeat (first|refine bN ?_ _|refine bD ?_|refine bA ?_ _|refine blk_far ?_ Bo.out _));exact Bc.out) Try.underlying25 rfl (by kernel_rfl)) rfl ?_
    exact ⟨_,by first|rfl|(simp [errW_none,errW_some] <;> rfl)|(simp [*,errW_none,errW_some] <;> rfl),by (with_reducible repeat (first|apply rA|apply rN|apply rD));exact rM (rF (p:=⟨Bh,1,none⟩) (rF (p:=⟨Bh,0,none⟩) (rF (p:=⟨Bf,1,none⟩) (rT (rT Ba.out Bb.out (by decide)) Bc.out (by decide)) (fun _ hk=>hk.1.2) (.int .i64 (rd y210 t213))) (fun _ hk=>hk.2) (.slice Ao101 x179000_1.length co101)) (fun _ hk=>hk.2) (.int .i64 (rd y210 t213))) (fun _ hk=>trivial),by repeat (first|(with_reducible first|exact HI0.out|apply IsS58.alloc|apply IsS58.drewN|apply IsS58.drew|apply IsS58.set_1|refine IsS58.far ?_ Be.out _|refine IsS58.far ?_ Bd.out _)|exact HI0.out),by repeat (first|(with_reducible first|exact HB.out|apply oA|apply pN|apply o1|refine bS ?_ (IsS58.ge HI0.out)|refine bS ?_ Bj.out|refine bS ?_ Bk.out)|exact HB.out),by repeat (first|(with_reducible first|exact HK.out|apply KeepBut.set_|apply keep_drewN|apply keep_drew|apply keep_alloc|refine keep_far ?_ Bg.out _|refine keep_far ?_ Bi.out _)|exact HK.out)⟩
   rw [if_neg c85] at H
   have c85b0:(t208 == 0)=false:=beq_eq_false_iff_ne.mpr c85
   have c85b1:(t208 != 0)=true:=bne_iff_ne.mpr c85
   by_cases c104:t208=1
   rotate_left
   ·rw [if_neg c104] at H
    have c104b0:(t208 == 1)=false:=beq_eq_false_iff_ne.mpr c104
    have c104b1:(t208 != 1)=true:=bne_iff_ne.mpr c104
    simp only [Option.some.injEq,Prod.mk.injEq] at H
    obtain ⟨rfl,rfl,rfl⟩:=H
    go_wp2_with (first|((with_reducible refine gate_callee (f:=35) rfl ?_);refine goesL_ (some 68) rfl rfl Try.func35 (by kernel_rfl) rfl #[.pointer (some ⟨g,0,none⟩),.int .i64 24] rfl (by (try simp only [lM,lC,lN]);first|done|rfl|(simp only [lD,lT];rfl)) ?_;(with_reducible refine (spec_l6Rd_pick.calls k1 g s0_0 x1001_1 24 t208 t209 w0 _ ?side1 ?side2 A84.out).mono ?_);(case side1=>repeat (first|(with_reducible first|exact HI0.out|apply IsS58.alloc|apply IsS58.drewN|apply IsS58.drew|apply IsS58.set_1|refine IsS58.far ?_ Be.out _|refine IsS58.far ?_ Bd.out _)|exact HI0.out));(case side2=>repeat (first|(with_reducible first|exact HB.out|apply oA|apply pN|apply o1|refine bS ?_ (IsS58.ge HI0.out)|refine bS ?_ Bj.out|refine bS ?_ Bk.out)|exact HB.out));rintro e w130 ⟨rfl,hi,hb,hk⟩;refine ⟨_,rfl,?_⟩;have n0_:=Am (rM (Kd.R_keep (IsS58.apart (show IsS58 w0 _ g s0_0 x1001_1 from by repeat (first|(with_reducible first|exact HI0.out|apply IsS58.alloc|apply IsS58.drewN|apply IsS58.drew|apply IsS58.set_1|refine IsS58.far ?_ Be.out _|refine IsS58.far ?_ Bd.out _)|exact HI0.out)) (rL Ba.out) (by decide)) hk (fun _ h=>h.2)) (fun _ h=>h.1));have n1_:=Am (KeepBut.blk hk (g':=Bh) (o:=.cells #[.slice none 0 0,.int .i64 0] 25 (0,0)) (bL Bc.out) Bn.out (by simp));have n2_:=Am (KeepBut.blk hk (g':=Bf) (o:=.cells #[u179000,.int .i64 x179001_1] 25 (0,0)) (bL Bb.out) Bl.out (by simp));have n3_:=Am (KeepBut.trans (by repeat (first|(with_reducible first|exact HK.out|apply KeepBut.set_|apply keep_drewN|apply keep_drew|apply keep_alloc|refine keep_far ?_ Bg.out _|refine keep_far ?_ Bi.out _)|exact HK.out)) hk (.inl rfl));have n4_:=Am (hb);have n5_:=Am (hi);clear Ba Bc Bb HK HB HI0;revert n0_ n1_ n2_ n3_ n4_ n5_;intro Ba Bc Bb HK HB HI0;(try clear hb);(try clear hb2);(try clear hk);(try clear hi);have DS:=Bp.out;have DT:=Bo.out;have DU:=Bl.out;have DV:=Bd.out;have De:=cz0 Bb.out;have Df:=cz1 Bb.out;have Dg:=bF Bb.out 0;have Dh:=bF Bb.out 1;obtain ⟨Ao134,co134,eo134⟩:=Kd.R_slice Ba.out;subst eo134;have DW:=Bn.out;have DX:=Be.out;have Di:=cz0 Bc.out;have Dj:=cz1 Bc.out;have Dk:=bF Bc.out 0;have Dl:=bF Bc.out 1))
    refine bodyPost_ret (results_cell_row rfl _ _ Bh 25 #[.slice Ao134 x179000_1.length co134,.int .i64 x179001_1] (0,0) _ rfl (by (with_reducible repeat (first|refine bN ?_ _|refine bD ?_|refine bA ?_ _));refine blk_put (cs:=#[.slice Ao134 x179000_1.length co134,.int .i64 0]) ?_ 1 _ rfl;(with_reducible repeat (first|refine bN ?_ _|refine bD ?_|refine bA ?_ _));refine blk_put (cs:=#[.slice none 0 0,.int .i64 0]) ?_ 0 _ rfl;(with_reducible repeat (first|refine bN ?_ _|refine bD ?_|refine bA ?_ _));exact Bc.out) Try.underlying25 rfl (by kernel_rfl)) rfl ?_
    exact ⟨_,by first|rfl|(simp [errW_none,errW_some] <;> rfl)|(simp [*,errW_none,errW_some] <;> rfl),by (with_reducible repeat (first|apply rA|apply rN|apply rD));exact rM (rF (p:=⟨Bh,1,none⟩) (rF (p:=⟨Bh,0,none⟩) (rT Ba.out Bc.out (by decide)) (fun _ hk=>hk.2) (.slice Ao134 x179000_1.length co134)) (fun _ hk=>hk.2) (.int .i64 x179001_1)) (fun _ hk=>trivial),by repeat (first|(with_reducible first|exact HI0.out|apply IsS58.alloc|apply IsS58.drewN|apply IsS58.drew|apply IsS58.set_1|refine IsS58.far ?_ Be.out _|refine IsS58.far ?_ Bd.out _)|exact HI0.out),by repeat (first|(with_reducible first|exact HB.out|apply oA|apply pN|apply o1|refine bS ?_ (IsS58.ge HI0.out)|refine bS ?_ Bj.out|refine bS ?_ Bk.out)|exact HB.out),by repeat (first|(with_reducible first|exact HK.out|apply KeepBut.set_|apply keep_drewN|apply keep_drew|apply keep_alloc|refine keep_far ?_ Bg.out _|refine keep_far ?_ Bi.out _)|exact HK.out)⟩

   rw [if_pos c104] at H
   have c104b0:(t208 == 1)=true:=beq_iff_eq.mpr c104
   have c104b1:(t208 != 1)=false:=bne_eq_false_iff_eq.mpr c104
   clear c104
   replace H:=oC H
   obtain ⟨⟨t216,t217⟩,A1050,H⟩:=H
   replace H:((spec_l6Rd_pick.f k1 s0_0 t217 8).bind fun bt218=>((some (([0,1000000,999990]:List Int):List Int)).bind fun y220=>((spec_l6Rd_pick.f k1 s0_0 bt218.2 3).bind fun bt223=>(if 0≤bt223.1 then (if bt223.1<(y220.length:Int) then (if x179000_1.length<4398046511104 then (some ((x179000_1 ++ [(⟨t216,bt218.1,rd y220 bt223.1,true⟩:S40)]),x179001_1,bt223.2)) else (none)) else (none)) else (none)))))=some (r1,r2,r3):=H
   have A105:=Am A1050
   clear A1050
   replace H:=oC H
   obtain ⟨⟨t218,t219⟩,A1060,H⟩:=H
   replace H:((some (([0,1000000,999990]:List Int):List Int)).bind fun y220=>((spec_l6Rd_pick.f k1 s0_0 t219 3).bind fun bt223=>(if 0≤bt223.1 then (if bt223.1<(y220.length:Int) then (if x179000_1.length<4398046511104 then (some ((x179000_1 ++ [(⟨t216,t218,rd y220 bt223.1,true⟩:S40)]),x179001_1,bt223.2)) else (none)) else (none)) else (none))))=some (r1,r2,r3):=H
   have A106:=Am A1060
   clear A1060
   obtain ⟨y220,hy220⟩:∃ y_:List Int,y_=(([0,1000000,999990]:List Int)):=⟨_,rfl⟩
   replace H:((spec_l6Rd_pick.f k1 s0_0 t219 3).bind fun bt223=>(if 0≤bt223.1 then (if bt223.1<(y220.length:Int) then (if x179000_1.length<4398046511104 then (some ((x179000_1 ++ [(⟨t216,t218,rd y220 bt223.1,true⟩:S40)]),x179001_1,bt223.2)) else (none)) else (none)) else (none)))=some (r1,r2,r3):=by first|(rw [hy220];with_reducible exact H)|(have H2_:=(Option.bind_some _ _).symm.trans H;rw [hy220];with_reducible exact H2_)|(have H2_:=(Option.bind_some _ _).symm.trans H;with_reducible exact H2_)|with_reducible exact H|(rw [hy220];exact H)|exact H
   have Ny220:=Am hy220
   clear hy220
   replace H:=oC H
   obtain ⟨⟨t223,t224⟩,A1070,H⟩:=H
   replace H:(if 0≤t223 then (if t223<(y220.length:Int) then (if x179000_1.length<4398046511104 then (some ((x179000_1 ++ [(⟨t216,t218,rd y220 t223,true⟩:S40)]),x179001_1,t224)) else (none)) else (none)) else (none))=some (r1,r2,r3):=H
   have A107:=Am A1070
   clear A1070
   by_cases c108:0≤t223
   rotate_left
   ·rw [if_neg c108] at H
    exact absurd H (by simp)
   rw [if_pos c108] at H
   have c108b0:decide (0≤t223)=true:=decide_eq_true c108
   clear c108
   by_cases c109:t223<(y220.length:Int)
   rotate_left
   ·rw [if_neg c109] at H
    exact absurd H (by simp)
   rw [if_pos c109] at H
   have c109b0:decide (t223<(y220.length:Int))=true:=decide_eq_true c109
   clear c109
   by_cases c110:x179000_1.length<4398046511104
   rotate_left
   ·rw [if_neg c110] at H
    exact absurd H (by simp)
   rw [if_pos c110] at H
   have LMc110:=Am c110
   clear c110
   obtain ⟨y226,hy226⟩:∃ y_:List (S40),y_=(x179000_1 ++ [(⟨t216,t218,rd y220 t223,true⟩:S40)]):=⟨_,rfl⟩
   replace H:(some (y226,x179001_1,t224))=some (r1,r2,r3):=by first|(rw [hy226];with_reducible exact H)|(have H2_:=(Option.bind_some _ _).symm.trans H;rw [hy226];with_reducible exact H2_)|(have H2_:=(Option.bind_some _ _).symm.trans H;with_reducible exact H2_)|with_reducible exact H|(rw [hy226];exact H)|exact H
   have Ny226:=Am hy226
   clear hy226
   simp only [Option.some.injEq,Prod.mk.injEq] at H
   obtain ⟨rfl,rfl,rfl⟩:=H
   try go_wp2_with (first|((with_reducible refine gate_callee (f:=35) rfl ?_);refine goesL_ (some 68) rfl rfl Try.func35 (by kernel_rfl) rfl #[.pointer (some ⟨g,0,none⟩),.int .i64 24] rfl (by (try simp only [lM,lC,lN]);first|done|rfl|(simp only [lD,lT];rfl)) ?_;(with_reducible refine (spec_l6Rd_pick.calls k1 g s0_0 x1001_1 24 t208 t209 w0 _ ?side1 ?side2 A84.out).mono ?_);(case side1=>repeat (first|(with_reducible first|exact HI0.out|apply IsS58.alloc|apply IsS58.drewN|apply IsS58.drew|apply IsS58.set_1|refine IsS58.far ?_ Be.out _|refine IsS58.far ?_ Bd.out _)|exact HI0.out));(case side2=>repeat (first|(with_reducible first|exact HB.out|apply oA|apply pN|apply o1|refine bS ?_ (IsS58.ge HI0.out)|refine bS ?_ Bj.out|refine bS ?_ Bk.out)|exact HB.out));rintro e w111 ⟨rfl,hi,hb,hk⟩;refine ⟨_,rfl,?_⟩;have n0_:=Am (rM (Kd.R_keep (IsS58.apart (show IsS58 w0 _ g s0_0 x1001_1 from by repeat (first|(with_reducible first|exact HI0.out|apply IsS58.alloc|apply IsS58.drewN|apply IsS58.drew|apply IsS58.set_1|refine IsS58.far ?_ Be.out _|refine IsS58.far ?_ Bd.out _)|exact HI0.out)) (rL Ba.out) (by decide)) hk (fun _ h=>h.2)) (fun _ h=>h.1));have n1_:=Am (KeepBut.blk hk (g':=Bh) (o:=.cells #[.slice none 0 0,.int .i64 0] 25 (0,0)) (bL Bc.out) Bn.out (by simp));have n2_:=Am (KeepBut.blk hk (g':=Bf) (o:=.cells #[u179000,.int .i64 x179001_1] 25 (0,0)) (bL Bb.out) Bl.out (by simp));have n3_:=Am (KeepBut.trans (by repeat (first|(with_reducible first|exact HK.out|apply KeepBut.set_|apply keep_drewN|apply keep_drew|apply keep_alloc|refine keep_far ?_ Bg.out _|refine keep_far ?_ Bi.out _)|exact HK.out)) hk (.inl rfl));have n4_:=Am (hb);have n5_:=Am (hi);clear Ba Bc Bb HK HB HI0;revert n0_ n1_ n2_ n3_ n4_ n5_;intro Ba Bc Bb HK HB HI0;(try clear hb);(try clear hb2);(try clear hk);(try clear hi);obtain ⟨Ao112,co112,eo112⟩:=Kd.R_slice Ba.out;subst eo112))
   have pi225:(0≤(t223:Int))=True:=eq_true (of_decide_eq_true (by first|(with_reducible assumption)|assumption))
   have qi225:(t223<(y220.length:Int))=True:=eq_true (of_decide_eq_true (by first|(with_reducible assumption)|assumption))
   have n0_:=Am (rD Ba.out)
   have n1_:=Am (bD Bc.out)
   have n2_:=Am (bD Bb.out)
   have n3_:=Am (IsS58.drew HI0.out)
   have n4_:=Am (keep_drew HK.out)
   have n5_:=Am (o1 HB.out)
   clear Ba
   clear Bc
   clear Bb
   clear HI0
   clear HK
   clear HB
   have Ba:=n0_
   have Bc:=n1_
   have Bb:=n2_
   have HI0:=n3_
   have HK:=n4_
   have HB:=n5_
   clear n0_ n1_ n2_ n3_ n4_ n5_
   refine start_ (n:=16) (S:=fun w'=>w'.cell? ⟨Bf,0,none⟩=some (.slice Ao112 x179000_1.length co112)∧w'.cell? ⟨Bf,1,none⟩=some (.int .i64 x179001_1)) (ds:=[15]) z34q18 (by kernel_rfl) rfl rfl ⟨(bC Bb.out 0).trans rfl,(bC Bb.out 1).trans rfl⟩ (fun hHeld=>?_);refine with_st spec_l92Queue.tab21 spec_l92Queue.bits21 (fun _ _ _ _ _ h=>h) (fun HT_=>?_)
   generalize w111.drew=w113 at Ba Bc Bb HI0 HK HB hHeld ⊢
   refine pS 0 82 z34q19 HT_ rfl rfl (by kernel_rfl) (by rfl) (by intro w';go_simp;with_reducible rfl) (by simp only [Act.put,lA,lZ,lS,iw,jw];rfl) ?_
   refine pS 2 84 z34q20 HT_ rfl rfl (by kernel_rfl) (by rfl) (by intro w';go_simp;with_reducible rfl) (by simp only [Act.put,lA,lZ,lS,iw,jw];rfl) ?_
   refine pS 4 86 z34q21 HT_ rfl rfl (by kernel_rfl) (by rfl) (by intro w';go_simp;with_reducible rfl) (by simp only [Act.put,lA,lZ,lS,iw,jw];rfl) ?_
   refine pS 7 89 z34q22 HT_ rfl rfl (by kernel_rfl) (by rfl) (by intro w';go_simp;with_reducible rfl) (by simp only [Act.put,lA,lZ,lS,iw,jw];rfl) ?_
   refine tS 1 83 z34q23 HT_ hHeld rfl rfl (by kernel_rfl) (by rfl) (by rintro w' ⟨s0,s1⟩;go_simp;with_reducible rfl) (by simp only [Act.put,lA,lZ,lS,iw,jw];rfl) ?_
   refine join_ (σ:=Value × Addr) 7 z34q24 (fun s_=>[(85,.int .i64 t216),(87,.int .i64 t218),(88,s_.1),(90,.int .i64 t223)]) (fun s_ w'=>(w'.cell? ⟨Bf,0,none⟩=some (.slice Ao112 x179000_1.length co112)∧w'.cell? ⟨Bf,1,none⟩=some (.int .i64 x179001_1))∧(Kd.R (Kd.int .i64) 3 w' w.heap.size (fun _=>True) s_.1 y220)∧(Kd.R k40 40 w' w.heap.size (fun _=>True) (.slice Ao112 x179000_1.length co112) x179000_1)∧(∃ c_,(s_.1:Value)=.slice (some s_.2) y220.length c_)∧(w'.heap[Bh]?=some (.cells #[.slice none 0 0,.int .i64 0] 25 (0,0)))∧(w'.heap[Bf]?=some (.cells #[.slice Ao112 x179000_1.length co112,.int .i64 x179001_1] 25 (0,0)))∧(IsS58 w0 w' g s0_0 t224)∧(KeepBut w w' g none)∧(Below w0.heap.size w0 w')) ?_ ?_
   rotate_left
   ·intro hCont
    refine two_ (i:=3) (j:=6) (Ni:=some 85) (Nj:=some 88) z34q25 z34q26 rfl rfl rfl rfl (two_of HT_.out (by kernel_rfl)) (by decide) (by decide) (fun K hK=>?_) (fun K hK=>?_)
    ·skip
     refine goes_ Try.func35 (by kernel_rfl) rfl #[.pointer (some ⟨g,0,none⟩),.int .i64 101] (by rfl) rfl rfl (by (try simp only [lM,lC,lN]);first|done|rfl|(simp only [lD,lT];rfl)) ?_
     with_reducible refine (spec_l6Rd_pick.calls k1 g s0_0 t209 101 t216 t217 w0 _ ?side1 ?side2 A105.out).mono ?_
     (case side1=>repeat (first|(with_reducible first|exact HI0.out|apply IsS58.alloc|apply IsS58.drewN|apply IsS58.drew|apply IsS58.set_1|refine IsS58.far ?_ Be.out _|refine IsS58.far ?_ Bd.out _)|exact HI0.out))
     (case side2=>repeat (first|(with_reducible first|exact HB.out|apply oA|apply pN|apply o1|refine bS ?_ (IsS58.ge HI0.out)|refine bS ?_ Bj.out|refine bS ?_ Bk.out)|exact HB.out))
     rintro e w114 ⟨rfl,hi,hb,hk⟩
     refine ⟨_,rfl,?_⟩
     have n0_:=Am (rM (Kd.R_keep (IsS58.apart (show IsS58 w0 _ g s0_0 t209 from by repeat (first|(with_reducible first|exact HI0.out|apply IsS58.alloc|apply IsS58.drewN|apply IsS58.drew|apply IsS58.set_1|refine IsS58.far ?_ Be.out _|refine IsS58.far ?_ Bd.out _)|exact HI0.out)) (rL Ba.out) (by decide)) hk (fun _ h=>h.2)) (fun _ h=>h.1))
     have n1_:=Am (KeepBut.blk hk (g':=Bh) (o:=.cells #[.slice none 0 0,.int .i64 0] 25 (0,0)) (bL Bc.out) Bn.out (by simp))
     have n2_:=Am (KeepBut.blk hk (g':=Bf) (o:=.cells #[.slice Ao112 x179000_1.length co112,.int .i64 x179001_1] 25 (0,0)) (bL Bb.out) Bl.out (by simp))
     have n3_:=Am (KeepBut.trans (by repeat (first|(with_reducible first|exact HK.out|apply KeepBut.set_|apply keep_drewN|apply keep_drew|apply keep_alloc|refine keep_far ?_ Bg.out _|refine keep_far ?_ Bi.out _)|exact HK.out)) hk (.inl rfl))
     have n4_:=Am (hb)
     have n5_:=Am (hi)
     clear Ba
     clear Bc
     clear Bb
     clear HK
     clear HB
     clear HI0
     have Ba:=n0_
     have Bc:=n1_
     have Bb:=n2_
     have HK:=n3_
     have HB:=n4_
     have HI0:=n5_
     clear n0_ n1_ n2_ n3_ n4_ n5_
     (try clear hb)
     (try clear hb2)
     (try clear hk)
     (try clear hi)
     refine hK.out _ _ ⟨(bC Bb.out 0).trans rfl,(bC Bb.out 1).trans rfl⟩ (fun hHeld=>?_)
     clear hK K
     refine norm_ (by show Act.put _ (some 85) _=_;simp only [Act.put,lA,lZ,lS,iw,jw];rfl) ?_
     refine two_ (i:=5) (j:=6) (Ni:=some 87) (Nj:=some 88) z34q27 z34q28 rfl rfl rfl rfl (two_of HT_.out (by kernel_rfl)) (by decide) (by decide) (fun K hK=>?_) (fun K hK=>?_)
     ·skip
      refine goes_ Try.func35 (by kernel_rfl) rfl #[.pointer (some ⟨g,0,none⟩),.int .i64 8] (by rfl) rfl rfl (by (try simp only [lM,lC,lN]);first|done|rfl|(simp only [lD,lT];rfl)) ?_
      with_reducible refine (spec_l6Rd_pick.calls k1 g s0_0 t217 8 t218 t219 w0 _ ?side1 ?side2 A106.out).mono ?_
      (case side1=>repeat (first|(with_reducible first|exact HI0.out|apply IsS58.alloc|apply IsS58.drewN|apply IsS58.drew|apply IsS58.set_1|refine IsS58.far ?_ Be.out _|refine IsS58.far ?_ Bd.out _)|exact HI0.out))
      (case side2=>repeat (first|(with_reducible first|exact HB.out|apply oA|apply pN|apply o1|refine bS ?_ (IsS58.ge HI0.out)|refine bS ?_ Bj.out|refine bS ?_ Bk.out)|exact HB.out))
      rintro e w115 ⟨rfl,hi,hb,hk⟩
      refine ⟨_,rfl,?_⟩
      have n0_:=Am (rM (Kd.R_keep (IsS58.apart (show IsS58 w0 _ g s0_0 t217 from by repeat (first|(with_reducible first|exact HI0.out|apply IsS58.alloc|apply IsS58.drewN|apply IsS58.drew|apply IsS58.set_1|refine IsS58.far ?_ Be.out _|refine IsS58.far ?_ Bd.out _)|exact HI0.out)) (rL Ba.out) (by decide)) hk (fun _ h=>h.2)) (fun _ h=>h.1))
      have n1_:=Am (KeepBut.blk hk (g':=Bh) (o:=.cells #[.slice none 0 0,.int .i64 0] 25 (0,0)) (bL Bc.out) Bn.out (by simp))
      have n2_:=Am (KeepBut.blk hk (g':=Bf) (o:=.cells #[.slice Ao112 x179000_1.length co112,.int .i64 x179001_1] 25 (0,0)) (bL Bb.out) Bl.out (by simp))
      have n3_:=Am (KeepBut.trans (by repeat (first|(with_reducible first|exact HK.out|apply KeepBut.set_|apply keep_drewN|apply keep_drew|apply keep_alloc|refine keep_far ?_ Bg.out _|refine keep_far ?_ Bi.out _)|exact HK.out)) hk (.inl rfl))
      have n4_:=Am (hb)
      have n5_:=Am (hi)
      clear Ba
      clear Bc
      clear Bb
      clear HK
      clear HB
      clear HI0
      have Ba:=n0_
      have Bc:=n1_
      have Bb:=n2_
      have HK:=n3_
      have HB:=n4_
      have HI0:=n5_
      clear n0_ n1_ n2_ n3_ n4_ n5_
      (try clear hb)
      (try clear hb2)
      (try clear hk)
      (try clear hi)
      refine hK.out _ _ ⟨(bC Bb.out 0).trans rfl,(bC Bb.out 1).trans rfl⟩ (fun hHeld=>?_)
      clear hK K
      refine norm_ (by show Act.put _ (some 87) _=_;simp only [Act.put,lA,lZ,lS,iw,jw];rfl) ?_
      refine two_ (i:=6) (j:=8) (Ni:=some 88) (Nj:=some 90) z34q29 z34q30 rfl rfl rfl rfl (two_of HT_.out (by kernel_rfl)) (by decide) (by decide) (fun K hK=>?_) (fun K hK=>?_)
      ·skip
       refine Kd.R_lit_step (Kd.int .i64) _ 3 ?hg (N:=88) ?hd (xs:=([0,1000000,999990]:List Int)) (inner:=[.int .i64 0,.int .i64 1000000,.int .i64 999990]) (ok:=fun _=>True) (okp:=fun _=>True) ?hr ?hp (fun _ hk=>hk) trivial (Below.refl _ _) (Nat.le_refl _) (by simp) ?_;(case hd=>rfl);(case hg=>rfl);(case hr=>first|(go_simp;done)|(go_simp;rfl));(case hp=>exact (Reps.one (show Kd.M (Kd.int .i64) _ _ _ 0 [.int .i64 0] from rfl) (Reps.one (show Kd.M (Kd.int .i64) _ _ _ 1000000 [.int .i64 1000000] from rfl) (Reps.one (show Kd.M (Kd.int .i64) _ _ _ 999990 [.int .i64 999990] from rfl) (Reps.none _ _)))))
       intro v221 w116 ho117 hb hg_ hnew_
       clear hg_ hnew_
       (first|rw [← Ny220.out] at ho117|(simp only [Int.reduceToNat] at ho117;rw [← Ny220.out] at ho117))
       have n0_:=Am (rB (rL Ba.out) hb)
       have n1_:=Am (Kd.R_lower ho117 (keep_size (w:=w) (g:=g) (row:=none) (by repeat (first|(with_reducible first|exact HK.out|apply KeepBut.set_|apply keep_drewN|apply keep_drew|apply keep_alloc|refine keep_far ?_ Bg.out _|refine keep_far ?_ Bi.out _)|exact HK.out))))
       have n2_:=Am (bX Bc.out hb)
       have n3_:=Am (bX Bb.out hb)
       have n4_:=Am (IsS58.below (by repeat (first|(with_reducible first|exact HI0.out|apply IsS58.alloc|apply IsS58.drewN|apply IsS58.drew|apply IsS58.set_1|refine IsS58.far ?_ Be.out _|refine IsS58.far ?_ Bd.out _)|exact HI0.out)) hb)
       have n5_:=Am (KeepBut.trans (by repeat (first|(with_reducible first|exact HK.out|apply KeepBut.set_|apply keep_drewN|apply keep_drew|apply keep_alloc|refine keep_far ?_ Bg.out _|refine keep_far ?_ Bi.out _)|exact HK.out)) (KeepBut.of_below hb g none) (.inl rfl))
       have n6_:=Am (bP (by repeat (first|(with_reducible first|exact HB.out|apply oA|apply pN|apply o1|refine bS ?_ (IsS58.ge HI0.out)|refine bS ?_ Bj.out|refine bS ?_ Bk.out)|exact HB.out)) hb)
       clear Ba
       clear Bc
       clear Bb
       clear HI0
       clear HK
       clear HB
       have Ba:=n0_
       have Bm:=n1_
       have Bc:=n2_
       have Bb:=n3_
       have HI0:=n4_
       have HK:=n5_
       have HB:=n6_
       clear n0_ n1_ n2_ n3_ n4_ n5_ n6_
       clear hb ho117
       obtain ⟨Ao118,co118,eo118⟩:=Kd.R_slice Bm.out
       subst eo118
       obtain ⟨ado118,fo118,_⟩:=Kd.at_int (Kd.R_reads' Bm.out).2.2 0 (by decide) (by rw [Ny220.out];simp)
       cases fo118
       refine hK.out _ _ ⟨(bC Bb.out 0).trans rfl,(bC Bb.out 1).trans rfl⟩ (fun hHeld=>?_)
       clear hK K
       refine norm_ (by show Act.put _ (some 88) _=_;simp only [Act.put,lA,lZ,lS,iw,jw];rfl) ?_
       refine oS 8 90 z34q24 HT_ rfl rfl (by kernel_rfl) (by decide) (fun K hK=>?_)
       refine goes_ Try.func35 (by kernel_rfl) rfl #[.pointer (some ⟨g,0,none⟩),.int .i64 3] (by rfl) rfl rfl (by (try simp only [lM,lC,lN]);first|done|rfl|(simp only [lD,lT];rfl)) ?_
       with_reducible refine (spec_l6Rd_pick.calls k1 g s0_0 t219 3 t223 t224 w0 _ ?side1 ?side2 A107.out).mono ?_
       (case side1=>repeat (first|(with_reducible first|exact HI0.out|apply IsS58.alloc|apply IsS58.drewN|apply IsS58.drew|apply IsS58.set_1|refine IsS58.far ?_ Be.out _|refine IsS58.far ?_ Bd.out _)|exact HI0.out))
       (case side2=>repeat (first|(with_reducible first|exact HB.out|apply oA|apply pN|apply o1|refine bS ?_ (IsS58.ge HI0.out)|refine bS ?_ Bj.out|refine bS ?_ Bk.out)|exact HB.out))
       rintro e w119 ⟨rfl,hi,hb,hk⟩
       refine ⟨_,rfl,?_⟩
       have n0_:=Am (rM (Kd.R_keep (IsS58.apart (show IsS58 w0 _ g s0_0 t219 from by repeat (first|(with_reducible first|exact HI0.out|apply IsS58.alloc|apply IsS58.drewN|apply IsS58.drew|apply IsS58.set_1|refine IsS58.far ?_ Be.out _|refine IsS58.far ?_ Bd.out _)|exact HI0.out)) (rL Ba.out) (by decide)) hk (fun _ h=>h.2)) (fun _ h=>h.1))
       have n1_:=Am (KeepBut.blk hk (g':=Bh) (o:=.cells #[.slice none 0 0,.int .i64 0] 25 (0,0)) (bL Bc.out) Bn.out (by simp))
       have n2_:=Am (KeepBut.blk hk (g':=Bf) (o:=.cells #[.slice Ao112 x179000_1.length co112,.int .i64 x179001_1] 25 (0,0)) (bL Bb.out) Bl.out (by simp))
       have n3_:=Am (rM (Kd.R_keep (IsS58.apart (show IsS58 w0 _ g s0_0 t219 from by repeat (first|(with_reducible first|exact HI0.out|apply IsS58.alloc|apply IsS58.drewN|apply IsS58.drew|apply IsS58.set_1|refine IsS58.far ?_ Be.out _|refine IsS58.far ?_ Bd.out _)|exact HI0.out)) (rL Bm.out) (by decide)) hk (fun _ h=>h.2)) (fun _ h=>h.1))
       have n4_:=Am (KeepBut.trans (by repeat (first|(with_reducible first|exact HK.out|apply KeepBut.set_|apply keep_drewN|apply keep_drew|apply keep_alloc|refine keep_far ?_ Bg.out _|refine keep_far ?_ Bi.out _)|exact HK.out)) hk (.inl rfl))
       have n5_:=Am (hb)
       have n6_:=Am (hi)
       clear Ba
       clear Bc
       clear Bb
       clear Bm
       clear HK
       clear HB
       clear HI0
       have Ba:=n0_
       have Bc:=n1_
       have Bb:=n2_
       have Bm:=n3_
       have HK:=n4_
       have HB:=n5_
       have HI0:=n6_
       clear n0_ n1_ n2_ n3_ n4_ n5_ n6_
       (try clear hb)
       (try clear hb2)
       (try clear hk)
       (try clear hi)
       refine hK.out _ _ ⟨(bC Bb.out 0).trans rfl,(bC Bb.out 1).trans rfl⟩ (fun hHeld=>?_)
       clear hK K
       refine norm_ (by show Act.put _ (some 90) _=_;simp only [Act.put,lA,lZ,lS,iw,jw];rfl) ?_
       exact norm_ (by simp only [putAll,Act.put,lA,lZ,lS]) (hCont (.slice (some ado118) y220.length co118,ado118) _ ⟨hHeld,(rL Bm.out),(rL Ba.out),⟨_,rfl⟩,(bL Bc.out),(bL Bb.out),(by repeat (first|(with_reducible first|exact HI0.out|apply IsS58.alloc|apply IsS58.drewN|apply IsS58.drew|apply IsS58.set_1|refine IsS58.far ?_ Be.out _|refine IsS58.far ?_ Bd.out _)|exact HI0.out)),(by repeat (first|(with_reducible first|exact HK.out|apply KeepBut.set_|apply keep_drewN|apply keep_drew|apply keep_alloc|refine keep_far ?_ Bg.out _|refine keep_far ?_ Bi.out _)|exact HK.out)),(by repeat (first|(with_reducible first|exact HB.out|apply oA|apply pN|apply o1|refine bS ?_ (IsS58.ge HI0.out)|refine bS ?_ Bj.out|refine bS ?_ Bk.out)|exact HB.out))⟩)
      ·skip
       refine goes_ Try.func35 (by kernel_rfl) rfl #[.pointer (some ⟨g,0,none⟩),.int .i64 3] (by rfl) rfl rfl (by (try simp only [lM,lC,lN]);first|done|rfl|(simp only [lD,lT];rfl)) ?_
       with_reducible refine (spec_l6Rd_pick.calls k1 g s0_0 t219 3 t223 t224 w0 _ ?side1 ?side2 A107.out).mono ?_
       (case side1=>repeat (first|(with_reducible first|exact HI0.out|apply IsS58.alloc|apply IsS58.drewN|apply IsS58.drew|apply IsS58.set_1|refine IsS58.far ?_ Be.out _|refine IsS58.far ?_ Bd.out _)|exact HI0.out))
       (case side2=>repeat (first|(with_reducible first|exact HB.out|apply oA|apply pN|apply o1|refine bS ?_ (IsS58.ge HI0.out)|refine bS ?_ Bj.out|refine bS ?_ Bk.out)|exact HB.out))
       rintro e w116 ⟨rfl,hi,hb,hk⟩
       refine ⟨_,rfl,?_⟩
       have n0_:=Am (rM (Kd.R_keep (IsS58.apart (show IsS58 w0 _ g s0_0 t219 from by repeat (first|(with_reducible first|exact HI0.out|apply IsS58.alloc|apply IsS58.drewN|apply IsS58.drew|apply IsS58.set_1|refine IsS58.far ?_ Be.out _|refine IsS58.far ?_ Bd.out _)|exact HI0.out)) (rL Ba.out) (by decide)) hk (fun _ h=>h.2)) (fun _ h=>h.1))
       have n1_:=Am (KeepBut.blk hk (g':=Bh) (o:=.cells #[.slice none 0 0,.int .i64 0] 25 (0,0)) (bL Bc.out) Bn.out (by simp))
       have n2_:=Am (KeepBut.blk hk (g':=Bf) (o:=.cells #[.slice Ao112 x179000_1.length co112,.int .i64 x179001_1] 25 (0,0)) (bL Bb.out) Bl.out (by simp))
       have n3_:=Am (KeepBut.trans (by repeat (first|(with_reducible first|exact HK.out|apply KeepBut.set_|apply keep_drewN|apply keep_drew|apply keep_alloc|refine keep_far ?_ Bg.out _|refine keep_far ?_ Bi.out _)|exact HK.out)) hk (.inl rfl))
       have n4_:=Am (hb)
       have n5_:=Am (hi)
       clear Ba
       clear Bc
       clear Bb
       clear HK
       clear HB
       clear HI0
       have Ba:=n0_
       have Bc:=n1_
       have Bb:=n2_
       have HK:=n3_
       have HB:=n4_
       have HI0:=n5_
       clear n0_ n1_ n2_ n3_ n4_ n5_
       (try clear hb)
       (try clear hb2)
       (try clear hk)
       (try clear hi)
       refine hK.out _ _ ⟨(bC Bb.out 0).trans rfl,(bC Bb.out 1).trans rfl⟩ (fun hHeld=>?_)
       clear hK K
       refine norm_ (by show Act.put _ (some 90) _=_;simp only [Act.put,lA,lZ,lS,iw,jw];rfl) ?_
       refine oS 6 88 z34q24 HT_ rfl rfl (by kernel_rfl) (by decide) (fun K hK=>?_)
       refine Kd.R_lit_step (Kd.int .i64) _ 3 ?hg (N:=88) ?hd (xs:=([0,1000000,999990]:List Int)) (inner:=[.int .i64 0,.int .i64 1000000,.int .i64 999990]) (ok:=fun _=>True) (okp:=fun _=>True) ?hr ?hp (fun _ hk=>hk) trivial (Below.refl _ _) (Nat.le_refl _) (by simp) ?_;(case hd=>rfl);(case hg=>rfl);(case hr=>first|(go_simp;done)|(go_simp;rfl));(case hp=>exact (Reps.one (show Kd.M (Kd.int .i64) _ _ _ 0 [.int .i64 0] from rfl) (Reps.one (show Kd.M (Kd.int .i64) _ _ _ 1000000 [.int .i64 1000000] from rfl) (Reps.one (show Kd.M (Kd.int .i64) _ _ _ 999990 [.int .i64 999990] from rfl) (Reps.none _ _)))))
       intro v221 w117 ho118 hb hg_ hnew_
       clear hg_ hnew_
       (first|rw [← Ny220.out] at ho118|(simp only [Int.reduceToNat] at ho118;rw [← Ny220.out] at ho118))
       have n0_:=Am (rB (rL Ba.out) hb)
       have n1_:=Am (Kd.R_lower ho118 (keep_size (w:=w) (g:=g) (row:=none) (by repeat (first|(with_reducible first|exact HK.out|apply KeepBut.set_|apply keep_drewN|apply keep_drew|apply keep_alloc|refine keep_far ?_ Bg.out _|refine keep_far ?_ Bi.out _)|exact HK.out))))
       have n2_:=Am (bX Bc.out hb)
       have n3_:=Am (bX Bb.out hb)
       have n4_:=Am (IsS58.below (by repeat (first|(with_reducible first|exact HI0.out|apply IsS58.alloc|apply IsS58.drewN|apply IsS58.drew|apply IsS58.set_1|refine IsS58.far ?_ Be.out _|refine IsS58.far ?_ Bd.out _)|exact HI0.out)) hb)
       have n5_:=Am (KeepBut.trans (by repeat (first|(with_reducible first|exact HK.out|apply KeepBut.set_|apply keep_drewN|apply keep_drew|apply keep_alloc|refine keep_far ?_ Bg.out _|refine keep_far ?_ Bi.out _)|exact HK.out)) (KeepBut.of_below hb g none) (.inl rfl))
       have n6_:=Am (bP (by repeat (first|(with_reducible first|exact HB.out|apply oA|apply pN|apply o1|refine bS ?_ (IsS58.ge HI0.out)|refine bS ?_ Bj.out|refine bS ?_ Bk.out)|exact HB.out)) hb)
       clear Ba
       clear Bc
       clear Bb
       clear HI0
       clear HK
       clear HB
       have Ba:=n0_
       have Bm:=n1_
       have Bc:=n2_
       have Bb:=n3_
       have HI0:=n4_
       have HK:=n5_
       have HB:=n6_
       clear n0_ n1_ n2_ n3_ n4_ n5_ n6_
       clear hb ho118
       obtain ⟨Ao119,co119,eo119⟩:=Kd.R_slice Bm.out
       subst eo119
       obtain ⟨ado119,fo119,_⟩:=Kd.at_int (Kd.R_reads' Bm.out).2.2 0 (by decide) (by rw [Ny220.out];simp)
       cases fo119
       refine hK.out _ _ ⟨(bC Bb.out 0).trans rfl,(bC Bb.out 1).trans rfl⟩ (fun hHeld=>?_)
       clear hK K
       refine norm_ (by show Act.put _ (some 88) _=_;simp only [Act.put,lA,lZ,lS,iw,jw];rfl) ?_
       exact norm_ (by simp only [putAll,Act.put,lA,lZ,lS]) (hCont (.slice (some ado119) y220.length co119,ado119) _ ⟨hHeld,(rL Bm.out),(rL Ba.out),⟨_,rfl⟩,(bL Bc.out),(bL Bb.out),(by repeat (first|(with_reducible first|exact HI0.out|apply IsS58.alloc|apply IsS58.drewN|apply IsS58.drew|apply IsS58.set_1|refine IsS58.far ?_ Be.out _|refine IsS58.far ?_ Bd.out _)|exact HI0.out)),(by repeat (first|(with_reducible first|exact HK.out|apply KeepBut.set_|apply keep_drewN|apply keep_drew|apply keep_alloc|refine keep_far ?_ Bg.out _|refine keep_far ?_ Bi.out _)|exact HK.out)),(by repeat (first|(with_reducible first|exact HB.out|apply oA|apply pN|apply o1|refine bS ?_ (IsS58.ge HI0.out)|refine bS ?_ Bj.out|refine bS ?_ Bk.out)|exact HB.out))⟩)
     ·skip
      refine Kd.R_lit_step (Kd.int .i64) _ 3 ?hg (N:=88) ?hd (xs:=([0,1000000,999990]:List Int)) (inner:=[.int .i64 0,.int .i64 1000000,.int .i64 999990]) (ok:=fun _=>True) (okp:=fun _=>True) ?hr ?hp (fun _ hk=>hk) trivial (Below.refl _ _) (Nat.le_refl _) (by simp) ?_;(case hd=>rfl);(case hg=>rfl);(case hr=>first|(go_simp;done)|(go_simp;rfl));(case hp=>exact (Reps.one (show Kd.M (Kd.int .i64) _ _ _ 0 [.int .i64 0] from rfl) (Reps.one (show Kd.M (Kd.int .i64) _ _ _ 1000000 [.int .i64 1000000] from rfl) (Reps.one (show Kd.M (Kd.int .i64) _ _ _ 999990 [.int .i64 999990] from rfl) (Reps.none _ _)))))
      intro v221 w115 ho116 hb hg_ hnew_
      clear hg_ hnew_
      (first|rw [← Ny220.out] at ho116|(simp only [Int.reduceToNat] at ho116;rw [← Ny220.out] at ho116))
      have n0_:=Am (rB (rL Ba.out) hb)
      have n1_:=Am (Kd.R_lower ho116 (keep_size (w:=w) (g:=g) (row:=none) (by repeat (first|(with_reducible first|exact HK.out|apply KeepBut.set_|apply keep_drewN|apply keep_drew|apply keep_alloc|refine keep_far ?_ Bg.out _|refine keep_far ?_ Bi.out _)|exact HK.out))))
      have n2_:=Am (bX Bc.out hb)
      have n3_:=Am (bX Bb.out hb)
      have n4_:=Am (IsS58.below (by repeat (first|(with_reducible first|exact HI0.out|apply IsS58.alloc|apply IsS58.drewN|apply IsS58.drew|apply IsS58.set_1|refine IsS58.far ?_ Be.out _|refine IsS58.far ?_ Bd.out _)|exact HI0.out)) hb)
      have n5_:=Am (KeepBut.trans (by repeat (first|(with_reducible first|exact HK.out|apply KeepBut.set_|apply keep_drewN|apply keep_drew|apply keep_alloc|refine keep_far ?_ Bg.out _|refine keep_far ?_ Bi.out _)|exact HK.out)) (KeepBut.of_below hb g none) (.inl rfl))
      have n6_:=Am (bP (by repeat (first|(with_reducible first|exact HB.out|apply oA|apply pN|apply o1|refine bS ?_ (IsS58.ge HI0.out)|refine bS ?_ Bj.out|refine bS ?_ Bk.out)|exact HB.out)) hb)
      clear Ba
      clear Bc
      clear Bb
      clear HI0
      clear HK
      clear HB
      have Ba:=n0_
      have Bm:=n1_
      have Bc:=n2_
      have Bb:=n3_
      have HI0:=n4_
      have HK:=n5_
      have HB:=n6_
      clear n0_ n1_ n2_ n3_ n4_ n5_ n6_
      clear hb ho116
      obtain ⟨Ao117,co117,eo117⟩:=Kd.R_slice Bm.out
      subst eo117
      obtain ⟨ado117,fo117,_⟩:=Kd.at_int (Kd.R_reads' Bm.out).2.2 0 (by decide) (by rw [Ny220.out];simp)
      cases fo117
      refine hK.out _ _ ⟨(bC Bb.out 0).trans rfl,(bC Bb.out 1).trans rfl⟩ (fun hHeld=>?_)
      clear hK K
      refine norm_ (by show Act.put _ (some 88) _=_;simp only [Act.put,lA,lZ,lS,iw,jw];rfl) ?_
      refine oS 5 87 z34q29 HT_ rfl rfl (by kernel_rfl) (by decide) (fun K hK=>?_)
      refine goes_ Try.func35 (by kernel_rfl) rfl #[.pointer (some ⟨g,0,none⟩),.int .i64 8] (by rfl) rfl rfl (by (try simp only [lM,lC,lN]);first|done|rfl|(simp only [lD,lT];rfl)) ?_
      with_reducible refine (spec_l6Rd_pick.calls k1 g s0_0 t217 8 t218 t219 w0 _ ?side1 ?side2 A106.out).mono ?_
      (case side1=>repeat (first|(with_reducible first|exact HI0.out|apply IsS58.alloc|apply IsS58.drewN|apply IsS58.drew|apply IsS58.set_1|refine IsS58.far ?_ Be.out _|refine IsS58.far ?_ Bd.out _)|exact HI0.out))
      (case side2=>repeat (first|(with_reducible first|exact HB.out|apply oA|apply pN|apply o1|refine bS ?_ (IsS58.ge HI0.out)|refine bS ?_ Bj.out|refine bS ?_ Bk.out)|exact HB.out))
      rintro e w118 ⟨rfl,hi,hb,hk⟩
      refine ⟨_,rfl,?_⟩
      have n0_:=Am (rM (Kd.R_keep (IsS58.apart (show IsS58 w0 _ g s0_0 t217 from by repeat (first|(with_reducible first|exact HI0.out|apply IsS58.alloc|apply IsS58.drewN|apply IsS58.drew|apply IsS58.set_1|refine IsS58.far ?_ Be.out _|refine IsS58.far ?_ Bd.out _)|exact HI0.out)) (rL Ba.out) (by decide)) hk (fun _ h=>h.2)) (fun _ h=>h.1))
      have n1_:=Am (KeepBut.blk hk (g':=Bh) (o:=.cells #[.slice none 0 0,.int .i64 0] 25 (0,0)) (bL Bc.out) Bn.out (by simp))
      have n2_:=Am (KeepBut.blk hk (g':=Bf) (o:=.cells #[.slice Ao112 x179000_1.length co112,.int .i64 x179001_1] 25 (0,0)) (bL Bb.out) Bl.out (by simp))
      have n3_:=Am (rM (Kd.R_keep (IsS58.apart (show IsS58 w0 _ g s0_0 t217 from by repeat (first|(with_reducible first|exact HI0.out|apply IsS58.alloc|apply IsS58.drewN|apply IsS58.drew|apply IsS58.set_1|refine IsS58.far ?_ Be.out _|refine IsS58.far ?_ Bd.out _)|exact HI0.out)) (rL Bm.out) (by decide)) hk (fun _ h=>h.2)) (fun _ h=>h.1))
      have n4_:=Am (KeepBut.trans (by repeat (first|(with_reducible first|exact HK.out|apply KeepBut.set_|apply keep_drewN|apply keep_drew|apply keep_alloc|refine keep_far ?_ Bg.out _|refine keep_far ?_ Bi.out _)|exact HK.out)) hk (.inl rfl))
      have n5_:=Am (hb)
      have n6_:=Am (hi)
      clear Ba
      clear Bc
      clear Bb
      clear Bm
      clear HK
      clear HB
      clear HI0
      have Ba:=n0_
      have Bc:=n1_
      have Bb:=n2_
      have Bm:=n3_
      have HK:=n4_
      have HB:=n5_
      have HI0:=n6_
      clear n0_ n1_ n2_ n3_ n4_ n5_ n6_
      (try clear hb)
      (try clear hb2)
      (try clear hk)
      (try clear hi)
      refine hK.out _ _ ⟨(bC Bb.out 0).trans rfl,(bC Bb.out 1).trans rfl⟩ (fun hHeld=>?_)
      clear hK K
      refine norm_ (by show Act.put _ (some 87) _=_;simp only [Act.put,lA,lZ,lS,iw,jw];rfl) ?_
      refine oS 8 90 z34q24 HT_ rfl rfl (by kernel_rfl) (by decide) (fun K hK=>?_)
      refine goes_ Try.func35 (by kernel_rfl) rfl #[.pointer (some ⟨g,0,none⟩),.int .i64 3] (by rfl) rfl rfl (by (try simp only [lM,lC,lN]);first|done|rfl|(simp only [lD,lT];rfl)) ?_
      with_reducible refine (spec_l6Rd_pick.calls k1 g s0_0 t219 3 t223 t224 w0 _ ?side1 ?side2 A107.out).mono ?_
      (case side1=>repeat (first|(with_reducible first|exact HI0.out|apply IsS58.alloc|apply IsS58.drewN|apply IsS58.drew|apply IsS58.set_1|refine IsS58.far ?_ Be.out _|refine IsS58.far ?_ Bd.out _)|exact HI0.out))
      (case side2=>repeat (first|(with_reducible first|exact HB.out|apply oA|apply pN|apply o1|refine bS ?_ (IsS58.ge HI0.out)|refine bS ?_ Bj.out|refine bS ?_ Bk.out)|exact HB.out))
      rintro e w119 ⟨rfl,hi,hb,hk⟩
      refine ⟨_,rfl,?_⟩
      have n0_:=Am (rM (Kd.R_keep (IsS58.apart (show IsS58 w0 _ g s0_0 t219 from by repeat (first|(with_reducible first|exact HI0.out|apply IsS58.alloc|apply IsS58.drewN|apply IsS58.drew|apply IsS58.set_1|refine IsS58.far ?_ Be.out _|refine IsS58.far ?_ Bd.out _)|exact HI0.out)) (rL Ba.out) (by decide)) hk (fun _ h=>h.2)) (fun _ h=>h.1))
      have n1_:=Am (KeepBut.blk hk (g':=Bh) (o:=.cells #[.slice none 0 0,.int .i64 0] 25 (0,0)) (bL Bc.out) Bn.out (by simp))
      have n2_:=Am (KeepBut.blk hk (g':=Bf) (o:=.cells #[.slice Ao112 x179000_1.length co112,.int .i64 x179001_1] 25 (0,0)) (bL Bb.out) Bl.out (by simp))
      have n3_:=Am (rM (Kd.R_keep (IsS58.apart (show IsS58 w0 _ g s0_0 t219 from by repeat (first|(with_reducible first|exact HI0.out|apply IsS58.alloc|apply IsS58.drewN|apply IsS58.drew|apply IsS58.set_1|refine IsS58.far ?_ Be.out _|refine IsS58.far ?_ Bd.out _)|exact HI0.out)) (rL Bm.out) (by decide)) hk (fun _ h=>h.2)) (fun _ h=>h.1))
      have n4_:=Am (KeepBut.trans (by repeat (first|(with_reducible first|exact HK.out|apply KeepBut.set_|apply keep_drewN|apply keep_drew|apply keep_alloc|refine keep_far ?_ Bg.out _|refine keep_far ?_ Bi.out _)|exact HK.out)) hk (.inl rfl))
      have n5_:=Am (hb)
      have n6_:=Am (hi)
      clear Ba
      clear Bc
      clear Bb
      clear Bm
      clear HK
      clear HB
      clear HI0
      have Ba:=n0_
      have Bc:=n1_
      have Bb:=n2_
      have Bm:=n3_
      have HK:=n4_
      have HB:=n5_
      have HI0:=n6_
      clear n0_ n1_ n2_ n3_ n4_ n5_ n6_
      (try clear hb)
      (try clear hb2)
      (try clear hk)
      (try clear hi)
      refine hK.out _ _ ⟨(bC Bb.out 0).trans rfl,(bC Bb.out 1).trans rfl⟩ (fun hHeld=>?_)
      clear hK K
      refine norm_ (by show Act.put _ (some 90) _=_;simp only [Act.put,lA,lZ,lS,iw,jw];rfl) ?_
      exact norm_ (by simp only [putAll,Act.put,lA,lZ,lS]) (hCont (.slice (some ado117) y220.length co117,ado117) _ ⟨hHeld,(rL Bm.out),(rL Ba.out),⟨_,rfl⟩,(bL Bc.out),(bL Bb.out),(by repeat (first|(with_reducible first|exact HI0.out|apply IsS58.alloc|apply IsS58.drewN|apply IsS58.drew|apply IsS58.set_1|refine IsS58.far ?_ Be.out _|refine IsS58.far ?_ Bd.out _)|exact HI0.out)),(by repeat (first|(with_reducible first|exact HK.out|apply KeepBut.set_|apply keep_drewN|apply keep_drew|apply keep_alloc|refine keep_far ?_ Bg.out _|refine keep_far ?_ Bi.out _)|exact HK.out)),(by repeat (first|(with_reducible first|exact HB.out|apply oA|apply pN|apply o1|refine bS ?_ (IsS58.ge HI0.out)|refine bS ?_ Bj.out|refine bS ?_ Bk.out)|exact HB.out))⟩)
    ·skip
     refine Kd.R_lit_step (Kd.int .i64) _ 3 ?hg (N:=88) ?hd (xs:=([0,1000000,999990]:List Int)) (inner:=[.int .i64 0,.int .i64 1000000,.int .i64 999990]) (ok:=fun _=>True) (okp:=fun _=>True) ?hr ?hp (fun _ hk=>hk) trivial (Below.refl _ _) (Nat.le_refl _) (by simp) ?_;(case hd=>rfl);(case hg=>rfl);(case hr=>first|(go_simp;done)|(go_simp;rfl));(case hp=>exact (Reps.one (show Kd.M (Kd.int .i64) _ _ _ 0 [.int .i64 0] from rfl) (Reps.one (show Kd.M (Kd.int .i64) _ _ _ 1000000 [.int .i64 1000000] from rfl) (Reps.one (show Kd.M (Kd.int .i64) _ _ _ 999990 [.int .i64 999990] from rfl) (Reps.none _ _)))))
     intro v221 w114 ho115 hb hg_ hnew_
     clear hg_ hnew_
     (first|rw [← Ny220.out] at ho115|(simp only [Int.reduceToNat] at ho115;rw [← Ny220.out] at ho115))
     have n0_:=Am (rB (rL Ba.out) hb)
     have n1_:=Am (Kd.R_lower ho115 (keep_size (w:=w) (g:=g) (row:=none) (by repeat (first|(with_reducible first|exact HK.out|apply KeepBut.set_|apply keep_drewN|apply keep_drew|apply keep_alloc|refine keep_far ?_ Bg.out _|refine keep_far ?_ Bi.out _)|exact HK.out))))
     have n2_:=Am (bX Bc.out hb)
     have n3_:=Am (bX Bb.out hb)
     have n4_:=Am (IsS58.below (by repeat (first|(with_reducible first|exact HI0.out|apply IsS58.alloc|apply IsS58.drewN|apply IsS58.drew|apply IsS58.set_1|refine IsS58.far ?_ Be.out _|refine IsS58.far ?_ Bd.out _)|exact HI0.out)) hb)
     have n5_:=Am (KeepBut.trans (by repeat (first|(with_reducible first|exact HK.out|apply KeepBut.set_|apply keep_drewN|apply keep_drew|apply keep_alloc|refine keep_far ?_ Bg.out _|refine keep_far ?_ Bi.out _)|exact HK.out)) (KeepBut.of_below hb g none) (.inl rfl))
     have n6_:=Am (bP (by repeat (first|(with_reducible first|exact HB.out|apply oA|apply pN|apply o1|refine bS ?_ (IsS58.ge HI0.out)|refine bS ?_ Bj.out|refine bS ?_ Bk.out)|exact HB.out)) hb)
     clear Ba
     clear Bc
     clear Bb
     clear HI0
     clear HK
     clear HB
     have Ba:=n0_
     have Bm:=n1_
     have Bc:=n2_
     have Bb:=n3_
     have HI0:=n4_
     have HK:=n5_
     have HB:=n6_
     clear n0_ n1_ n2_ n3_ n4_ n5_ n6_
     clear hb ho115
     obtain ⟨Ao116,co116,eo116⟩:=Kd.R_slice Bm.out
     subst eo116
     obtain ⟨ado116,fo116,_⟩:=Kd.at_int (Kd.R_reads' Bm.out).2.2 0 (by decide) (by rw [Ny220.out];simp)
     cases fo116
     refine hK.out _ _ ⟨(bC Bb.out 0).trans rfl,(bC Bb.out 1).trans rfl⟩ (fun hHeld=>?_)
     clear hK K
     refine norm_ (by show Act.put _ (some 88) _=_;simp only [Act.put,lA,lZ,lS,iw,jw];rfl) ?_
     refine oS 3 85 z34q28 HT_ rfl rfl (by kernel_rfl) (by decide) (fun K hK=>?_)
     refine goes_ Try.func35 (by kernel_rfl) rfl #[.pointer (some ⟨g,0,none⟩),.int .i64 101] (by rfl) rfl rfl (by (try simp only [lM,lC,lN]);first|done|rfl|(simp only [lD,lT];rfl)) ?_
     with_reducible refine (spec_l6Rd_pick.calls k1 g s0_0 t209 101 t216 t217 w0 _ ?side1 ?side2 A105.out).mono ?_
     (case side1=>repeat (first|(with_reducible first|exact HI0.out|apply IsS58.alloc|apply IsS58.drewN|apply IsS58.drew|apply IsS58.set_1|refine IsS58.far ?_ Be.out _|refine IsS58.far ?_ Bd.out _)|exact HI0.out))
     (case side2=>repeat (first|(with_reducible first|exact HB.out|apply oA|apply pN|apply o1|refine bS ?_ (IsS58.ge HI0.out)|refine bS ?_ Bj.out|refine bS ?_ Bk.out)|exact HB.out))
     rintro e w117 ⟨rfl,hi,hb,hk⟩
     refine ⟨_,rfl,?_⟩
     have n0_:=Am (rM (Kd.R_keep (IsS58.apart (show IsS58 w0 _ g s0_0 t209 from by repeat (first|(with_reducible first|exact HI0.out|apply IsS58.alloc|apply IsS58.drewN|apply IsS58.drew|apply IsS58.set_1|refine IsS58.far ?_ Be.out _|refine IsS58.far ?_ Bd.out _)|exact HI0.out)) (rL Ba.out) (by decide)) hk (fun _ h=>h.2)) (fun _ h=>h.1))
     have n1_:=Am (KeepBut.blk hk (g':=Bh) (o:=.cells #[.slice none 0 0,.int .i64 0] 25 (0,0)) (bL Bc.out) Bn.out (by simp))
     have n2_:=Am (KeepBut.blk hk (g':=Bf) (o:=.cells #[.slice Ao112 x179000_1.length co112,.int .i64 x179001_1] 25 (0,0)) (bL Bb.out) Bl.out (by simp))
     have n3_:=Am (rM (Kd.R_keep (IsS58.apart (show IsS58 w0 _ g s0_0 t209 from by repeat (first|(with_reducible first|exact HI0.out|apply IsS58.alloc|apply IsS58.drewN|apply IsS58.drew|apply IsS58.set_1|refine IsS58.far ?_ Be.out _|refine IsS58.far ?_ Bd.out _)|exact HI0.out)) (rL Bm.out) (by decide)) hk (fun _ h=>h.2)) (fun _ h=>h.1))
     have n4_:=Am (KeepBut.trans (by repeat (first|(with_reducible first|exact HK.out|apply KeepBut.set_|apply keep_drewN|apply keep_drew|apply keep_alloc|refine keep_far ?_ Bg.out _|refine keep_far ?_ Bi.out _)|exact HK.out)) hk (.inl rfl))
     have n5_:=Am (hb)
     have n6_:=Am (hi)
     clear Ba
     clear Bc
     clear Bb
     clear Bm
     clear HK
     clear HB
     clear HI0
     have Ba:=n0_
     have Bc:=n1_
     have Bb:=n2_
     have Bm:=n3_
     have HK:=n4_
     have HB:=n5_
     have HI0:=n6_
     clear n0_ n1_ n2_ n3_ n4_ n5_ n6_
     (try clear hb)
     (try clear hb2)
     (try clear hk)
     (try clear hi)
     refine hK.out _ _ ⟨(bC Bb.out 0).trans rfl,(bC Bb.out 1).trans rfl⟩ (fun hHeld=>?_)
     clear hK K
     refine norm_ (by show Act.put _ (some 85) _=_;simp only [Act.put,lA,lZ,lS,iw,jw];rfl) ?_
     refine oS 5 87 z34q29 HT_ rfl rfl (by kernel_rfl) (by decide) (fun K hK=>?_)
     refine goes_ Try.func35 (by kernel_rfl) rfl #[.pointer (some ⟨g,0,none⟩),.int .i64 8] (by rfl) rfl rfl (by (try simp only [lM,lC,lN]);first|done|rfl|(simp only [lD,lT];rfl)) ?_
     with_reducible refine (spec_l6Rd_pick.calls k1 g s0_0 t217 8 t218 t219 w0 _ ?side1 ?side2 A106.out).mono ?_
     (case side1=>repeat (first|(with_reducible first|exact HI0.out|apply IsS58.alloc|apply IsS58.drewN|apply IsS58.drew|apply IsS58.set_1|refine IsS58.far ?_ Be.out _|refine IsS58.far ?_ Bd.out _)|exact HI0.out))
     (case side2=>repeat (first|(with_reducible first|exact HB.out|apply oA|apply pN|apply o1|refine bS ?_ (IsS58.ge HI0.out)|refine bS ?_ Bj.out|refine bS ?_ Bk.out)|exact HB.out))
     rintro e w118 ⟨rfl,hi,hb,hk⟩
     refine ⟨_,rfl,?_⟩
     have n0_:=Am (rM (Kd.R_keep (IsS58.apart (show IsS58 w0 _ g s0_0 t217 from by repeat (first|(with_reducible first|exact HI0.out|apply IsS58.alloc|apply IsS58.drewN|apply IsS58.drew|apply IsS58.set_1|refine IsS58.far ?_ Be.out _|refine IsS58.far ?_ Bd.out _)|exact HI0.out)) (rL Ba.out) (by decide)) hk (fun _ h=>h.2)) (fun _ h=>h.1))
     have n1_:=Am (KeepBut.blk hk (g':=Bh) (o:=.cells #[.slice none 0 0,.int .i64 0] 25 (0,0)) (bL Bc.out) Bn.out (by simp))
     have n2_:=Am (KeepBut.blk hk (g':=Bf) (o:=.cells #[.slice Ao112 x179000_1.length co112,.int .i64 x179001_1] 25 (0,0)) (bL Bb.out) Bl.out (by simp))
     have n3_:=Am (rM (Kd.R_keep (IsS58.apart (show IsS58 w0 _ g s0_0 t217 from by repeat (first|(with_reducible first|exact HI0.out|apply IsS58.alloc|apply IsS58.drewN|apply IsS58.drew|apply IsS58.set_1|refine IsS58.far ?_ Be.out _|refine IsS58.far ?_ Bd.out _)|exact HI0.out)) (rL Bm.out) (by decide)) hk (fun _ h=>h.2)) (fun _ h=>h.1))
     have n4_:=Am (KeepBut.trans (by repeat (first|(with_reducible first|exact HK.out|apply KeepBut.set_|apply keep_drewN|apply keep_drew|apply keep_alloc|refine keep_far ?_ Bg.out _|refine keep_far ?_ Bi.out _)|exact HK.out)) hk (.inl rfl))
     have n5_:=Am (hb)
     have n6_:=Am (hi)
     clear Ba
     clear Bc
     clear Bb
     clear Bm
     clear HK
     clear HB
     clear HI0
     have Ba:=n0_
     have Bc:=n1_
     have Bb:=n2_
     have Bm:=n3_
     have HK:=n4_
     have HB:=n5_
     have HI0:=n6_
     clear n0_ n1_ n2_ n3_ n4_ n5_ n6_
     (try clear hb)
     (try clear hb2)
     (try clear hk)
     (try clear hi)
     refine hK.out _ _ ⟨(bC Bb.out 0).trans rfl,(bC Bb.out 1).trans rfl⟩ (fun hHeld=>?_)
     clear hK K
     refine norm_ (by show Act.put _ (some 87) _=_;simp only [Act.put,lA,lZ,lS,iw,jw];rfl) ?_
     refine oS 8 90 z34q24 HT_ rfl rfl (by kernel_rfl) (by decide) (fun K hK=>?_)
     refine goes_ Try.func35 (by kernel_rfl) rfl #[.pointer (some ⟨g,0,none⟩),.int .i64 3] (by rfl) rfl rfl (by (try simp only [lM,lC,lN]);first|done|rfl|(simp only [lD,lT];rfl)) ?_
     with_reducible refine (spec_l6Rd_pick.calls k1 g s0_0 t219 3 t223 t224 w0 _ ?side1 ?side2 A107.out).mono ?_
     (case side1=>repeat (first|(with_reducible first|exact HI0.out|apply IsS58.alloc|apply IsS58.drewN|apply IsS58.drew|apply IsS58.set_1|refine IsS58.far ?_ Be.out _|refine IsS58.far ?_ Bd.out _)|exact HI0.out))
     (case side2=>repeat (first|(with_reducible first|exact HB.out|apply oA|apply pN|apply o1|refine bS ?_ (IsS58.ge HI0.out)|refine bS ?_ Bj.out|refine bS ?_ Bk.out)|exact HB.out))
     rintro e w119 ⟨rfl,hi,hb,hk⟩
     refine ⟨_,rfl,?_⟩
     have n0_:=Am (rM (Kd.R_keep (IsS58.apart (show IsS58 w0 _ g s0_0 t219 from by repeat (first|(with_reducible first|exact HI0.out|apply IsS58.alloc|apply IsS58.drewN|apply IsS58.drew|apply IsS58.set_1|refine IsS58.far ?_ Be.out _|refine IsS58.far ?_ Bd.out _)|exact HI0.out)) (rL Ba.out) (by decide)) hk (fun _ h=>h.2)) (fun _ h=>h.1))
     have n1_:=Am (KeepBut.blk hk (g':=Bh) (o:=.cells #[.slice none 0 0,.int .i64 0] 25 (0,0)) (bL Bc.out) Bn.out (by simp))
     have n2_:=Am (KeepBut.blk hk (g':=Bf) (o:=.cells #[.slice Ao112 x179000_1.length co112,.int .i64 x179001_1] 25 (0,0)) (bL Bb.out) Bl.out (by simp))
     have n3_:=Am (rM (Kd.R_keep (IsS58.apart (show IsS58 w0 _ g s0_0 t219 from by repeat (first|(with_reducible first|exact HI0.out|apply IsS58.alloc|apply IsS58.drewN|apply IsS58.drew|apply IsS58.set_1|refine IsS58.far ?_ Be.out _|refine IsS58.far ?_ Bd.out _)|exact HI0.out)) (rL Bm.out) (by decide)) hk (fun _ h=>h.2)) (fun _ h=>h.1))
     have n4_:=Am (KeepBut.trans (by repeat (first|(with_reducible first|exact HK.out|apply KeepBut.set_|apply keep_drewN|apply keep_drew|apply keep_alloc|refine keep_far ?_ Bg.out _|refine keep_far ?_ Bi.out _)|exact HK.out)) hk (.inl rfl))
     have n5_:=Am (hb)
     have n6_:=Am (hi)
     clear Ba
     clear Bc
     clear Bb
     clear Bm
     clear HK
     clear HB
     clear HI0
     have Ba:=n0_
     have Bc:=n1_
     have Bb:=n2_
     have Bm:=n3_
     have HK:=n4_
     have HB:=n5_
     have HI0:=n6_
     clear n0_ n1_ n2_ n3_ n4_ n5_ n6_
     (try clear hb)
     (try clear hb2)
     (try clear hk)
     (try clear hi)
     refine hK.out _ _ ⟨(bC Bb.out 0).trans rfl,(bC Bb.out 1).trans rfl⟩ (fun hHeld=>?_)
     clear hK K
     refine norm_ (by show Act.put _ (some 90) _=_;simp only [Act.put,lA,lZ,lS,iw,jw];rfl) ?_
     exact norm_ (by simp only [putAll,Act.put,lA,lZ,lS]) (hCont (.slice (some ado116) y220.length co116,ado116) _ ⟨hHeld,(rL Bm.out),(rL Ba.out),⟨_,rfl⟩,(bL Bc.out),(bL Bb.out),(by repeat (first|(with_reducible first|exact HI0.out|apply IsS58.alloc|apply IsS58.drewN|apply IsS58.drew|apply IsS58.set_1|refine IsS58.far ?_ Be.out _|refine IsS58.far ?_ Bd.out _)|exact HI0.out)),(by repeat (first|(with_reducible first|exact HK.out|apply KeepBut.set_|apply keep_drewN|apply keep_drew|apply keep_alloc|refine keep_far ?_ Bg.out _|refine keep_far ?_ Bi.out _)|exact HK.out)),(by repeat (first|(with_reducible first|exact HB.out|apply oA|apply pN|apply o1|refine bS ?_ (IsS58.ge HI0.out)|refine bS ?_ Bj.out|refine bS ?_ Bk.out)|exact HB.out))⟩)
   rintro ⟨v221,adz_v221⟩ w120 ⟨hS_,h0_,h1_,h2_,h3_,h4_,h5_,h6_,h7_⟩
   have n0_:Aside0 (Kd.R (Kd.int .i64) 3 w120 w.heap.size (fun _=>True) v221 y220):=⟨h0_⟩
   have n1_:Aside0 (Kd.R k40 40 w120 w.heap.size (fun _=>True) (.slice Ao112 x179000_1.length co112) x179000_1):=⟨h1_⟩
   have n2_:Aside0 (∃ c_,(v221:Value)=.slice (some adz_v221) y220.length c_):=⟨h2_⟩
   have n3_:Aside0 (w120.heap[Bh]?=some (.cells #[.slice none 0 0,.int .i64 0] 25 (0,0))):=⟨h3_⟩
   have n4_:Aside0 (w120.heap[Bf]?=some (.cells #[.slice Ao112 x179000_1.length co112,.int .i64 x179001_1] 25 (0,0))):=⟨h4_⟩
   have n5_:Aside0 (IsS58 w0 w120 g s0_0 t224):=⟨h5_⟩
   have n6_:Aside0 (KeepBut w w120 g none):=⟨h6_⟩
   have n7_:Aside0 (Below w0.heap.size w0 w120):=⟨h7_⟩
   clear Ba
   clear Bc
   clear Bb
   clear HI0
   clear HK
   clear HB
   clear h0_ h1_ h2_ h3_ h4_ h5_ h6_ h7_
   have Bm:=n0_
   have Ba:=n1_
   have HA_HO222:=n2_
   have Bc:=n3_
   have Bb:=n4_
   have HI0:=n5_
   have HK:=n6_
   have HB:=n7_
   clear n0_ n1_ n2_ n3_ n4_ n5_ n6_ n7_
   have hHeld:w120.cell? ⟨Bf,0,none⟩=some (.slice Ao112 x179000_1.length co112)∧w120.cell? ⟨Bf,1,none⟩=some (.int .i64 x179001_1):=hS_
   obtain ⟨co121,eo121⟩:=HA_HO222.out
   clear HA_HO222
   subst eo121
   refine norm_ (by simp only [putAll,Act.put,lA,lZ,lS];rfl) ?_
   refine pS 9 91 z34q31 HT_ rfl rfl (by kernel_rfl) (by rfl) (by intro w';go_simp;with_reducible rfl) (by simp only [Act.put,lA,lZ,lS,iw,jw];rfl) ?_
   refine oS 10 92 z34q32 HT_ rfl rfl (by kernel_rfl) (by decide) (fun K hK=>?_)
   (have p225:0≤(t223:Int):=of_decide_eq_true (by first|(with_reducible assumption)|assumption);have q225:t223<(y220.length:Int):=of_decide_eq_true (by first|(with_reducible assumption)|assumption);obtain ⟨ad225,e225,hx225_0⟩:=Kd.at_int (Kd.R_reads' Bm.out).2.2 t223 p225 q225;obtain rfl:adz_v221=ad225:=(by injection e225))
   refine value_ (w1:=?_) (v:=?_) (by rfl) rfl ?_ ?_
   rotate_left 2
   ·go_simp
    constructor
    ·rfl
    ·rfl
   clear hx225_0
   refine hK.out _ _ ⟨(bC Bb.out 0).trans rfl,(bC Bb.out 1).trans rfl⟩ (fun hHeld=>?_)
   clear hK K
   refine norm_ (by show Act.put _ (some 92) _=_;simp only [Act.put,lA,lZ,lS,iw,jw];rfl) ?_
   refine pS 11 93 z34q33 HT_ rfl rfl (by kernel_rfl) (by rfl) (by intro w';go_simp;with_reducible rfl) (by simp only [Act.put,lA,lZ,lS,iw,jw];rfl) ?_
   refine oS 12 94 z34q34 HT_ rfl rfl (by kernel_rfl) (by decide) (fun K hK=>?_)
   refine value_ (w1:=?_) (v:=?_) (by rfl) rfl ?_ ?_
   rotate_left 2
   ·go_simp
    constructor
    ·rfl
    ·rfl
   refine hK.out _ _ ⟨(bC (bA Bb.out _) 0).trans rfl,(bC (bA Bb.out _) 1).trans rfl⟩ (fun hHeld=>?_)
   clear hK K
   refine norm_ (by show Act.put _ (some 94) _=_;simp only [Act.put,lA,lZ,lS,iw,jw];rfl) ?_
   refine oS 13 95 z34q35 HT_ rfl rfl (by kernel_rfl) (by decide) (fun K hK=>?_)
   refine Kd.R_append_step k40 w.heap.size (by rfl) (.tmp 83) (.tmp 94) 23 40 (.agg #[(.int .i64 0),(.int .i64 0),(.int .i64 0),(.bool false)]) 32 rfl Try.underlying23 info40 rfl (by decide) (by omega) (.slice Ao112 x179000_1.length co112) x179000_1 (⟨t216,t218,rd y220 t223,true⟩:S40) [.int .i64 t216,.int .i64 t218,.int .i64 (rd y220 t223),.bool true] (fun _=>True) (fun _=>False) rfl rfl ?aP (fun _ hk=>hk.elim) ?aF ?aO (Below.refl _ _) ?aS ?aL ?_
   (case aP=>exact k40_mkM _ _ _ (⟨t216,t218,rd y220 t223,true⟩:S40))
   (case aF=>exact (fun _ _=>trivial))
   (case aO=>exact (rL Ba.out))
   (case aS=>exact (keep_size (w:=w) (g:=g) (row:=none) (by repeat (first|(with_reducible first|exact HK.out|apply KeepBut.set_|apply keep_drewN|apply keep_drew|apply keep_alloc|refine keep_far ?_ Bg.out _|refine keep_far ?_ Bi.out _)|exact HK.out))))
   (case aL=>have:=LMc110.out;omega)
   intro v227 w122 ho hb hg hat
   rw [← Ny226.out] at ho
   have n0_:=Am (blk_grown (g:=Bh) (o:=.cells #[.slice none 0 0,.int .i64 0] 25 (0,0)) (bL Bc.out) hg (Kd.R_ne Ba.out Bc.out (by decide)))
   have n1_:=Am (blk_grown (g:=Bf) (o:=.cells #[.slice Ao112 x179000_1.length co112,.int .i64 x179001_1] 25 (0,0)) (bL Bb.out) hg (Kd.R_ne Ba.out Bb.out (by decide)))
   have n2_:=Am (IsS58.grown (by repeat (first|(with_reducible first|exact HI0.out|apply IsS58.alloc|apply IsS58.drewN|apply IsS58.drew|apply IsS58.set_1|refine IsS58.far ?_ Be.out _|refine IsS58.far ?_ Bd.out _)|exact HI0.out)) hg (IsS58.own_ne HI0.out Ba.out (by decide)))
   have n3_:=Am (Kd.R_over' (rL Bm.out) (Kd.R_typed (rL Ba.out)) (by decide) hg)
   have n4_:=Am (below_weaken (by repeat (first|(with_reducible first|exact HB.out|apply oA|apply pN|apply o1|refine bS ?_ (IsS58.ge HI0.out)|refine bS ?_ Bj.out|refine bS ?_ Bk.out)|exact HB.out)) HL.out hb)
   have n5_:=Am (KeepBut.trans (by repeat (first|(with_reducible first|exact HK.out|apply KeepBut.set_|apply keep_drewN|apply keep_drew|apply keep_alloc|refine keep_far ?_ Bg.out _|refine keep_far ?_ Bi.out _)|exact HK.out)) (KeepBut.of_grown hg g) (Kd.R_base2 Ba.out))
   have n6_:=Am (ho)
   clear Bc
   clear Bb
   clear HI0
   clear Bm
   clear HB
   clear HK
   clear Ba
   have Bc:=n0_
   have Bb:=n1_
   have HI0:=n2_
   have Bm:=n3_
   have HB:=n4_
   have HK:=n5_
   have BG:=n6_
   clear n0_ n1_ n2_ n3_ n4_ n5_ n6_
   clear ho hb hg hat
   obtain ⟨Ao123,co123,eo123⟩:=Kd.R_slice BG.out
   (first|subst eo123|(injection eo123 with f1_ f2_ f3_;have f4_:=f1_.symm;have f5_:=f3_.symm;clear f1_ f2_ f3_;subst f4_;subst f5_))
   refine hK.out _ _ ⟨(bC Bb.out 0).trans rfl,(bC Bb.out 1).trans rfl⟩ (fun hHeld=>?_)
   clear hK K
   refine norm_ (by show Act.put _ (some 95) _=_;simp only [Act.put,lA,lZ,lS,iw,jw];rfl) ?_
   refine pS 14 96 z34q36 HT_ rfl rfl (by kernel_rfl) (by rfl) (by intro w';go_simp;with_reducible rfl) (by simp only [Act.put,lA,lZ,lS,iw,jw];rfl) ?_
   refine last_ (i:=15) (N:=none) z34q37 rfl rfl (one_of HT_.out (by kernel_rfl)) (by decide) (fun K hK=>?_)
   have hs124:=cz0 Bb.out
   have hfs124:=bF Bb.out 0
   have hns124_0:=Bo.out
   have hms124_0:=Bp.out
   refine skip_ (w1:=?_) (by rfl) rfl ?_ ?_
   rotate_left;(go_simp;rfl)
   refine hK.out _ _ ?_
   clear hK K
   refine done_ (done_of HT_.out (by kernel_rfl)) ?_
   have DM:=Bp.out
   have DN:=Bo.out
   have DO:=Bl.out
   have DP:=Bd.out
   have B5:=cz0 Bb.out
   have B6:=cz1 Bb.out
   have B8:=bF Bb.out 0
   have B9:=bF Bb.out 1
   have DQ:=Bn.out
   have DR:=Be.out
   have Da:=cz0 Bc.out
   have Db:=cz1 Bc.out
   have Dc:=bF Bc.out 0
   have Dd:=bF Bc.out 1
   try go_wp2
   refine bodyPost_ret (results_cell_row rfl _ _ Bh 25 #[.slice Ao123 y226.length co123,.int .i64 x179001_1] (0,0) _ rfl (by (with_reducible repeat (first|refine bN ?_ _|refine bD ?_|refine bA ?_ _));refine blk_put (cs:=#[.slice Ao123 y226.length co123,.int .i64 0]) ?_ 1 _ rfl;(with_reducible repeat (first|refine bN ?_ _|refine bD ?_|refine bA ?_ _));refine blk_put (cs:=#[.slice none 0 0,.int .i64 0]) ?_ 0 _ rfl;(with_reducible repeat (first|refine bN ?_ _|refine bD ?_|refine bA ?_ _|refine blk_far ?_ Bo.out _));exact Bc.out) Try.underlying25 rfl (by kernel_rfl)) rfl ?_
   exact ⟨_,by first|rfl|(simp [errW_none,errW_some] <;> rfl)|(simp [*,errW_none,errW_some] <;> rfl),by (with_reducible repeat (first|apply rA|apply rN|apply rD));exact rM (rF (p:=⟨Bh,1,none⟩) (rF (p:=⟨Bh,0,none⟩) (rF (p:=⟨Bf,0,none⟩) (rT (rT BG.out Bb.out (by decide)) Bc.out (by decide)) (fun _ hk=>hk.1.2) (.slice Ao123 y226.length co123)) (fun _ hk=>hk.2) (.slice Ao123 y226.length co123)) (fun _ hk=>hk.2) (.int .i64 x179001_1)) (fun _ hk=>trivial),by repeat (first|(with_reducible first|exact HI0.out|apply IsS58.alloc|apply IsS58.drewN|apply IsS58.drew|apply IsS58.set_1|refine IsS58.far ?_ Be.out _|refine IsS58.far ?_ Bd.out _)|exact HI0.out),by repeat (first|(with_reducible first|exact HB.out|apply oA|apply pN|apply o1|refine bS ?_ (IsS58.ge HI0.out)|refine bS ?_ Bj.out|refine bS ?_ Bk.out)|exact HB.out),by repeat (first|(with_reducible first|exact HK.out|apply KeepBut.set_|apply keep_drewN|apply keep_drew|apply keep_alloc|refine keep_far ?_ Bg.out _|refine keep_far ?_ Bi.out _)|exact HK.out)⟩
end Go.Proofs.Ytfhcgmfodfcpeaa.PFnQueueLess
