/- Proved here, without a condition beyond those that each theorem states: what the Go functions named below do is what the plain functions of the same names say. Written by xprint.py, a program of this session. -/
import Derived.Test.YtpdfkbggaihfpaaPFnPagesKeepx0
import Derived.Test.YtpdfkbggaihfpaaPFnPagesKeepx3
import Derived.Test.YtpdfkbggaihfpaaPFnPagesKeepx10
import Derived.Test.YtpdfkbggaihfpaaPFnPagesKeepx11
namespace Go.Proofs.Ytpdfkbggaihfpaa.PFnPagesKeep
open Go.RowKit Go.Proofs.YtpdfkbggaihfpaaW.PrintWords Go.Proofs.YtpdfkbggaihfpaaW.PrintLast Go.Proofs.YtpdfkbggaihfpaaW.PrintMore
attribute [local go_sem] max2_int min2_int max_two min_two max_three min_three max_four min_four   -- for this text's walks alone
set_option linter.unusedVariables false
set_option linter.unusedSimpArgs false

attribute [local go_sem ↓] isSome_setCell_
/-! ### spec_PagesKeep: function 23 -/
def spec_PagesKeep.f (k : Nat) (l0_0 : List ByteArray) (l0_1 : List Int) (a1 : Int) : Option (List ByteArray × List Int × Bool) := (spec_PagesOk.f k l0_0 l0_1).bind fun t280 => (if t280 = true then ((spec_l1Used.f l0_0 l0_1 a1).bind fun t281 => (if t281 = true then (if 0 ≤ a1 then (if a1 < (l0_1.length : Int) then (if (rd l0_1 a1) ≥ 99 then (some (([] : List ByteArray), ([] : List Int), false)) else ((spec_l1Copy.f l0_0 l0_1).bind fun bt283 => (if a1 < (bt283.2.length : Int) then (some (bt283.1, (bt283.2.set (a1 : Int).toNat (wrap64 ((rd bt283.2 a1) + 1))), true)) else (none)))) else (none)) else (none)) else (some (([] : List ByteArray), ([] : List Int), false)))) else (some (([] : List ByteArray), ([] : List Int), false)))
theorem spec_PagesKeep.mono : ∀ a0 a1 a2 k, LeO (spec_PagesKeep.f k a0 a1 a2) (spec_PagesKeep.f (k + 1) a0 a1 a2) := by
 intro a0 a1 a2 k
 unfold spec_PagesKeep.f
 repeat' first
  |(with_reducible exact spec_PagesOk.mono _ _ _)
  |(with_reducible exact LeO.refl _)
  |(with_reducible exact LeO.none _)
  |(with_reducible refine LeO.ite ?_ ?_)
  |(with_reducible refine LeO.bind ?_ (fun _ => ?_))
  |exact spec_PagesOk.mono _ _ _
  |exact LeO.none _
  |refine LeO.ite ?_ ?_
  |refine LeO.bind ?_ (fun _ => ?_)
def spec_PagesKeep.T4 : Bool × List (List Nat × List Nat) := (true, [([], []), ([0], [0]), ([], []), ([], []), ([3], [3]), ([], []), ([4, 5], [4, 5]), ([6], [6]), ([7], [7]), ([1, 2, 0, 1, 2, 3, 4, 5, 6, 7, 8], [1, 2]), ([9, 8, 0, 1, 2, 3, 4, 5, 6, 7, 8], [8, 9])])
def spec_PagesKeep.B4 : List Nat := [0, 1, 0, 0, 8, 0, 56, 120, 248, 511, 1023]
theorem spec_PagesKeep.tab4 : rtab .any (opsOf Try.f23 4) = spec_PagesKeep.T4 := by kernel_rfl
theorem spec_PagesKeep.bits4 : waitsOk spec_PagesKeep.T4.2 spec_PagesKeep.B4 = true := by kernel_rfl
abbrev z23q0 : Array Bool := bQ 11 0
abbrev z23q1 : Array Bool := bQ 11 1
abbrev z23q2 : Array Bool := bQ 11 5
abbrev z23q3 : Array Bool := bQ 11 13
abbrev z23q4 : Array Bool := bQ 11 45
abbrev z23q5 : Array Bool := bQ 11 47
abbrev z23q6 : Array Bool := bQ 11 63
abbrev z23q7 : Array Bool := bQ 11 127
abbrev z23q8 : Array Bool := bQ 11 255
abbrev z23q9 : Array Bool := bQ 11 511
abbrev z23q10 : Array Bool := bQ 11 1023
abbrev z23q11 : Array Bool := bQ 11 2047
set_option maxHeartbeats 2000000 in
set_option maxRecDepth 100000 in
theorem spec_PagesKeep.calls (k:Nat) (A0_0:Option Addr) (c0_0:Nat) (l0_0:List ByteArray) (A0_1:Option Addr) (c0_1:Nat) (l0_1:List Int) (a1:Int) (r1:List ByteArray) (r2:List Int) (r3:Bool) (w:World) (hr0_0:Kd.C Kd.string w A0_0 l0_0.length l0_0) (hc0_0:l0_0.length≤c0_0) (hr0_1:Kd.C (Kd.int .i64) w A0_1 l0_1.length l0_1) (hc0_1:l0_1.length≤c0_1) (h:spec_PagesKeep.f k l0_0 l0_1 a1=some (r1,r2,r3)) :
  Calls Try.prog 23 #[.agg #[.slice A0_0 l0_0.length c0_0,.slice A0_1 l0_1.length c0_1],.int .i64 a1] w fun e w'=>∃ v0_ v1_:Value,e=.returned (.tuple #[.agg #[v0_,v1_],.bool r3])∧Kd.R Kd.string 9 w' w.heap.size (fun _=>True) v0_ r1∧Kd.R (Kd.int .i64) 3 w' w.heap.size (fun _=>True) v1_ r2∧Below w.heap.size w w':=by
 have hu26:=Try.underlying26
 have HR0_0:=Am hr0_0
 have HC0_0:=Am hc0_0
 clear hr0_0 hc0_0
 have HR0_1:=Am hr0_1
 have HC0_1:=Am hc0_1
 clear hr0_1 hc0_1
 have HB:=Am (Below.refl w.heap.size w)
 have H:((spec_PagesOk.f k l0_0 l0_1).bind fun t280=>(if t280=true then ((spec_l1Used.f l0_0 l0_1 a1).bind fun t281=>(if t281=true then (if 0≤a1 then (if a1<(l0_1.length:Int) then (if (rd l0_1 a1) ≥ 99 then (some (([]:List ByteArray),([]:List Int),false)) else ((spec_l1Copy.f l0_0 l0_1).bind fun bt283=>(if a1<(bt283.2.length:Int) then (some (bt283.1,(bt283.2.set (a1:Int).toNat (wrap64 ((rd bt283.2 a1) + 1))),true)) else (none)))) else (none)) else (none)) else (some (([]:List ByteArray),([]:List Int),false)))) else (some (([]:List ByteArray),([]:List Int),false))))=some (r1,r2,r3):=h
 clear h
 replace H:=oC H
 obtain ⟨t280,A30,H⟩:=H
 replace H:(if t280=true then ((spec_l1Used.f l0_0 l0_1 a1).bind fun t281=>(if t281=true then (if 0≤a1 then (if a1<(l0_1.length:Int) then (if (rd l0_1 a1) ≥ 99 then (some (([]:List ByteArray),([]:List Int),false)) else ((spec_l1Copy.f l0_0 l0_1).bind fun bt283=>(if a1<(bt283.2.length:Int) then (some (bt283.1,(bt283.2.set (a1:Int).toNat (wrap64 ((rd bt283.2 a1) + 1))),true)) else (none)))) else (none)) else (none)) else (some (([]:List ByteArray),([]:List Int),false)))) else (some (([]:List ByteArray),([]:List Int),false)))=some (r1,r2,r3):=H
 have A3:=Am A30
 clear A30
 by_cases c4:t280=true
 rotate_left
 ·replace c4:=Bool.eq_false_iff.mpr c4
  subst c4
  have H1:(some (([]:List ByteArray),([]:List Int),false))=some (r1,r2,r3):=by rw [if_neg (show ¬ (false=true) by decide)] at H;exact H
  clear H
  have H:=H1
  clear H1
  simp only [Option.some.injEq,Prod.mk.injEq] at H
  obtain ⟨rfl,rfl,rfl⟩:=H
  go_enter Try.func23,Try.ntmps23
  go_wp2_with (first|((with_reducible refine gate_dst (N:=2) rfl ?_);refine box_event ?hg (N:=2) ?hd (cs:=#[.slice A0_0 l0_0.length c0_0,.slice A0_1 l0_1.length c0_1]) (t:=26) ?hr ?_;(case hd=>rfl);(case hg=>rfl);(case hr=>first|(go_simp;done)|(go_simp;rfl));intro Bc hg w51 hbox hb;have n0_:=Am (bP (by repeat (first|(with_reducible first|exact HB.out|apply oA|apply pN|apply o1)|exact HB.out)) hb);have n1_:=Am (hbox);have n2_:=Am ((by rw [hg];exact (bZ (by repeat (first|(with_reducible first|exact HB.out|apply oA|apply pN|apply o1)|exact HB.out))):w.heap.size≤Bc));have n3_:=Am ((by rw [hg];exact (bZ (by repeat (first|(with_reducible first|exact HB.out|apply oA|apply pN|apply o1)|exact HB.out))):w.heap.size≤Bc));clear HB;revert n0_ n1_ n2_ n3_;intro HB Ba Bo Be;clear hb hbox hg)|((with_reducible refine gate_dst (N:=4) rfl ?_);refine box_event ?hg (N:=4) ?hd (cs:=#[.slice none 0 0,.slice none 0 0]) (t:=26) ?hr ?_;(case hd=>rfl);(case hg=>rfl);(case hr=>first|(go_simp;done)|(go_simp;rfl));intro Bd hg w52 hbox hb;have n0_:=Am (bX Ba.out hb);have n1_:=Am (bP (by repeat (first|(with_reducible first|exact HB.out|apply oA|apply pN|apply o1|refine bS ?_ Be.out)|exact HB.out)) hb);have n2_:=Am (hbox);have n3_:=Am ((by rw [hg];exact (bZ (by repeat (first|(with_reducible first|exact HB.out|apply oA|apply pN|apply o1|refine bS ?_ Be.out)|exact HB.out))):w.heap.size≤Bd));have n4_:=Am ((by rw [hg];exact (bZ (by repeat (first|(with_reducible first|exact HB.out|apply oA|apply pN|apply o1|refine bS ?_ Be.out)|exact HB.out))):w.heap.size≤Bd));have n5_:=Am ((nL Ba.out hg));have n6_:=Am ((nG Ba.out hg));clear Ba HB;revert n0_ n1_ n2_ n3_ n4_ n5_ n6_;intro Ba HB Bb Bp Bh Bk Bl;clear hb hbox hg;have DE:=Bk.out;have DF:=Bl.out;have Dl:=cz0 Ba.out;have Dm:=cz1 Ba.out;have Dn:=bF Ba.out 0;have Do:=bF Ba.out 1)|((with_reducible refine gate_callee (f:=42) rfl ?_);refine goesL_ (some 8) rfl rfl Try.func42 (by kernel_rfl) rfl #[.agg #[.slice A0_0 l0_0.length c0_0,.slice A0_1 l0_1.length c0_1]] rfl (by (try simp only [lM,lC,lN]);first|done|rfl|(simp only [lD,lT];rfl)) ?_;(with_reducible refine (spec_PagesOk.calls k _ _ l0_0 _ _ l0_1 false _ ?side1 ?side2 ?side3 ?side4 A3.out).mono ?_);(case side1=>repeat (first|exact (cB HR0_0.out HB.out)|(with_reducible refine cA ?_ _)|(with_reducible refine cN ?_ _)|(with_reducible refine cD ?_)));(case side2=>exact HC0_0.out);(case side3=>repeat (first|exact (cB HR0_1.out HB.out)|(with_reducible refine cA ?_ _)|(with_reducible refine cN ?_ _)|(with_reducible refine cD ?_)));(case side4=>exact HC0_1.out);rintro e w55 ⟨rfl,hb⟩;refine ⟨_,rfl,?_⟩;have n0_:=Am (bX Ba.out hb);have n1_:=Am (bX Bb.out hb);have n2_:=Am (bP (by repeat (first|(with_reducible first|exact HB.out|apply oA|apply pN|apply o1|refine bS ?_ Be.out|refine bS ?_ Bh.out)|exact HB.out)) hb);clear Ba Bb HB;revert n0_ n1_ n2_;intro Ba Bb HB;(try clear hb);(try clear hb2);(try clear hk);(try clear hi);have Dp:=cz0 Bb.out;have Dq:=cz1 Bb.out;have Dr:=bF Bb.out 0;have Ds:=bF Bb.out 1))
  refine bodyPost_ret (results_ct rfl _ _ Bd 26 #[.slice none 0 0,.slice none 0 0] (0,0) _ rfl (by (with_reducible repeat (first|refine bN ?_ _|refine bD ?_|refine bA ?_ _));refine blk_put (cs:=#[.slice none 0 0,.slice none 0 0]) ?_ 1 _ rfl;(with_reducible repeat (first|refine bN ?_ _|refine bD ?_|refine bA ?_ _));refine blk_put (cs:=#[.slice none 0 0,.slice none 0 0]) ?_ 0 _ rfl;(with_reducible repeat (first|refine bN ?_ _|refine bD ?_|refine bA ?_ _));exact Bb.out) Try.underlying26 rfl (by kernel_rfl)) rfl ?_
  exact ⟨_,_,by first|rfl|(simp [errW_none,errW_some] <;> rfl)|(simp [*,errW_none,errW_some] <;> rfl),by first|exact Kd.R_nil _ _ _ _ _|exact Kd.N_nil _ _ _ _ _|exact Kd.V_nil _ _ _ _ _|exact Kd.Q_nil _ _ _ _ _|exact Kd.S_nil _ _ _ _ _,by first|exact Kd.R_nil _ _ _ _ _|exact Kd.N_nil _ _ _ _ _|exact Kd.V_nil _ _ _ _ _|exact Kd.Q_nil _ _ _ _ _|exact Kd.S_nil _ _ _ _ _,by repeat (first|(with_reducible first|exact HB.out|apply oA|apply pN|apply o1|refine bS ?_ Be.out|refine bS ?_ Bh.out)|exact HB.out)⟩

 subst c4
 have H1:((spec_l1Used.f l0_0 l0_1 a1).bind fun t281=>(if t281=true then (if 0≤a1 then (if a1<(l0_1.length:Int) then (if (rd l0_1 a1) ≥ 99 then (some (([]:List ByteArray),([]:List Int),false)) else ((spec_l1Copy.f l0_0 l0_1).bind fun bt283=>(if a1<(bt283.2.length:Int) then (some (bt283.1,(bt283.2.set (a1:Int).toNat (wrap64 ((rd bt283.2 a1) + 1))),true)) else (none)))) else (none)) else (none)) else (some (([]:List ByteArray),([]:List Int),false))))=some (r1,r2,r3):=by rw [if_pos rfl] at H;exact H
 clear H
 have H:=H1
 clear H1
 replace H:=oC H
 obtain ⟨t281,A50,H⟩:=H
 replace H:(if t281=true then (if 0≤a1 then (if a1<(l0_1.length:Int) then (if (rd l0_1 a1) ≥ 99 then (some (([]:List ByteArray),([]:List Int),false)) else ((spec_l1Copy.f l0_0 l0_1).bind fun bt283=>(if a1<(bt283.2.length:Int) then (some (bt283.1,(bt283.2.set (a1:Int).toNat (wrap64 ((rd bt283.2 a1) + 1))),true)) else (none)))) else (none)) else (none)) else (some (([]:List ByteArray),([]:List Int),false)))=some (r1,r2,r3):=H
 have A5:=Am A50
 clear A50
 by_cases c6:t281=true
 rotate_left
 ·replace c6:=Bool.eq_false_iff.mpr c6
  subst c6
  have H1:(some (([]:List ByteArray),([]:List Int),false))=some (r1,r2,r3):=by rw [if_neg (show ¬ (false=true) by decide)] at H;exact H
  clear H
  have H:=H1
  clear H1
  simp only [Option.some.injEq,Prod.mk.injEq] at H
  obtain ⟨rfl,rfl,rfl⟩:=H
  go_enter Try.func23,Try.ntmps23
  go_wp2_with (first|((with_reducible refine gate_dst (N:=2) rfl ?_);refine box_event ?hg (N:=2) ?hd (cs:=#[.slice A0_0 l0_0.length c0_0,.slice A0_1 l0_1.length c0_1]) (t:=26) ?hr ?_;(case hd=>rfl);(case hg=>rfl);(case hr=>first|(go_simp;done)|(go_simp;rfl));intro Bc hg w43 hbox hb;have n0_:=Am (bP (by repeat (first|(with_reducible first|exact HB.out|apply oA|apply pN|apply o1)|exact HB.out)) hb);have n1_:=Am (hbox);have n2_:=Am ((by rw [hg];exact (bZ (by repeat (first|(with_reducible first|exact HB.out|apply oA|apply pN|apply o1)|exact HB.out))):w.heap.size≤Bc));have n3_:=Am ((by rw [hg];exact (bZ (by repeat (first|(with_reducible first|exact HB.out|apply oA|apply pN|apply o1)|exact HB.out))):w.heap.size≤Bc));clear HB;revert n0_ n1_ n2_ n3_;intro HB Ba Bo Be;clear hb hbox hg)|((with_reducible refine gate_dst (N:=4) rfl ?_);refine box_event ?hg (N:=4) ?hd (cs:=#[.slice none 0 0,.slice none 0 0]) (t:=26) ?hr ?_;(case hd=>rfl);(case hg=>rfl);(case hr=>first|(go_simp;done)|(go_simp;rfl));intro Bd hg w44 hbox hb;have n0_:=Am (bX Ba.out hb);have n1_:=Am (bP (by repeat (first|(with_reducible first|exact HB.out|apply oA|apply pN|apply o1|refine bS ?_ Be.out)|exact HB.out)) hb);have n2_:=Am (hbox);have n3_:=Am ((by rw [hg];exact (bZ (by repeat (first|(with_reducible first|exact HB.out|apply oA|apply pN|apply o1|refine bS ?_ Be.out)|exact HB.out))):w.heap.size≤Bd));have n4_:=Am ((by rw [hg];exact (bZ (by repeat (first|(with_reducible first|exact HB.out|apply oA|apply pN|apply o1|refine bS ?_ Be.out)|exact HB.out))):w.heap.size≤Bd));have n5_:=Am ((nL Ba.out hg));have n6_:=Am ((nG Ba.out hg));clear Ba HB;revert n0_ n1_ n2_ n3_ n4_ n5_ n6_;intro Ba HB Bb Bp Bh Bk Bl;clear hb hbox hg;have DC:=Bk.out;have DD:=Bl.out;have B9:=cz0 Ba.out;have Da:=cz1 Ba.out;have Db:=bF Ba.out 0;have Dc:=bF Ba.out 1)|((with_reducible refine gate_callee (f:=42) rfl ?_);refine goesL_ (some 8) rfl rfl Try.func42 (by kernel_rfl) rfl #[.agg #[.slice A0_0 l0_0.length c0_0,.slice A0_1 l0_1.length c0_1]] rfl (by (try simp only [lM,lC,lN]);first|done|rfl|(simp only [lD,lT];rfl)) ?_;(with_reducible refine (spec_PagesOk.calls k _ _ l0_0 _ _ l0_1 true _ ?side1 ?side2 ?side3 ?side4 A3.out).mono ?_);(case side1=>repeat (first|exact (cB HR0_0.out HB.out)|(with_reducible refine cA ?_ _)|(with_reducible refine cN ?_ _)|(with_reducible refine cD ?_)));(case side2=>exact HC0_0.out);(case side3=>repeat (first|exact (cB HR0_1.out HB.out)|(with_reducible refine cA ?_ _)|(with_reducible refine cN ?_ _)|(with_reducible refine cD ?_)));(case side4=>exact HC0_1.out);rintro e w47 ⟨rfl,hb⟩;refine ⟨_,rfl,?_⟩;have n0_:=Am (bX Ba.out hb);have n1_:=Am (bX Bb.out hb);have n2_:=Am (bP (by repeat (first|(with_reducible first|exact HB.out|apply oA|apply pN|apply o1|refine bS ?_ Be.out|refine bS ?_ Bh.out)|exact HB.out)) hb);clear Ba Bb HB;revert n0_ n1_ n2_;intro Ba Bb HB;(try clear hb);(try clear hb2);(try clear hk);(try clear hi);have Dd:=cz0 Ba.out;have De:=cz1 Ba.out;have Df:=bF Ba.out 0;have Dg:=bF Ba.out 1)|(go_at_call 50;(with_reducible refine (spec_l1Used.calls _ _ l0_0 _ _ l0_1 a1 false _ ?side1 ?side2 ?side3 ?side4 A5.out).mono ?_);(case side1=>repeat (first|exact (cB HR0_0.out HB.out)|(with_reducible refine cA ?_ _)|(with_reducible refine cN ?_ _)|(with_reducible refine cD ?_)));(case side2=>exact HC0_0.out);(case side3=>repeat (first|exact (cB HR0_1.out HB.out)|(with_reducible refine cA ?_ _)|(with_reducible refine cN ?_ _)|(with_reducible refine cD ?_)));(case side4=>exact HC0_1.out);rintro e w49 ⟨rfl,hb⟩;have n0_:=Am (bX Ba.out hb);have n1_:=Am (bX Bb.out hb);have n2_:=Am (bP (by repeat (first|(with_reducible first|exact HB.out|apply oA|apply pN|apply o1|refine bS ?_ Be.out|refine bS ?_ Bh.out)|exact HB.out)) hb);clear Ba Bb HB;revert n0_ n1_ n2_;intro Ba Bb HB;(try clear hb);(try clear hb2);(try clear hk);(try clear hi);have Dh:=cz0 Bb.out;have Di:=cz1 Bb.out;have Dj:=bF Bb.out 0;have Dk:=bF Bb.out 1))
  refine bodyPost_ret (results_ct rfl _ _ Bd 26 #[.slice none 0 0,.slice none 0 0] (0,0) _ rfl (by (with_reducible repeat (first|refine bN ?_ _|refine bD ?_|refine bA ?_ _));refine blk_put (cs:=#[.slice none 0 0,.slice none 0 0]) ?_ 1 _ rfl;(with_reducible repeat (first|refine bN ?_ _|refine bD ?_|refine bA ?_ _));refine blk_put (cs:=#[.slice none 0 0,.slice none 0 0]) ?_ 0 _ rfl;(with_reducible repeat (first|refine bN ?_ _|refine bD ?_|refine bA ?_ _));exact Bb.out) Try.underlying26 rfl (by kernel_rfl)) rfl ?_
  exact ⟨_,_,by first|rfl|(simp [errW_none,errW_some] <;> rfl)|(simp [*,errW_none,errW_some] <;> rfl),by first|exact Kd.R_nil _ _ _ _ _|exact Kd.N_nil _ _ _ _ _|exact Kd.V_nil _ _ _ _ _|exact Kd.Q_nil _ _ _ _ _|exact Kd.S_nil _ _ _ _ _,by first|exact Kd.R_nil _ _ _ _ _|exact Kd.N_nil _ _ _ _ _|exact Kd.V_nil _ _ _ _ _|exact Kd.Q_nil _ _ _ _ _|exact Kd.S_nil _ _ _ _ _,by repeat (first|(with_reducible first|exact HB.out|apply oA|apply pN|apply o1|refine bS ?_ Be.out|refine bS ?_ Bh.out)|exact HB.out)⟩
 subst c6
 have H1:(if 0≤a1 then (if a1<(l0_1.length:Int) then (if (rd l0_1 a1) ≥ 99 then (some (([]:List ByteArray),([]:List Int),false)) else ((spec_l1Copy.f l0_0 l0_1).bind fun bt283=>(if a1<(bt283.2.length:Int) then (some (bt283.1,(bt283.2.set (a1:Int).toNat (wrap64 ((rd bt283.2 a1) + 1))),true)) else (none)))) else (none)) else (none))=some (r1,r2,r3):=by rw [if_pos rfl] at H;exact H
 clear H
 have H:=H1
 clear H1
 by_cases c7:0≤a1
 rotate_left
 ·rw [if_neg c7] at H
  exact absurd H (by simp)
 rw [if_pos c7] at H
 have c7b0:decide (0≤a1)=true:=decide_eq_true c7
 clear c7
 by_cases c8:a1<(l0_1.length:Int)
 rotate_left
 ·rw [if_neg c8] at H
  exact absurd H (by simp)
 rw [if_pos c8] at H
 have c8b0:decide (a1<(l0_1.length:Int))=true:=decide_eq_true c8
 clear c8
 by_cases c9:(rd l0_1 a1) ≥ 99
 ·rw [if_pos c9] at H
  have c9b0:decide (99≤(rd l0_1 a1))=true:=decide_eq_true c9
  clear c9
  simp only [Option.some.injEq,Prod.mk.injEq] at H
  obtain ⟨rfl,rfl,rfl⟩:=H
  go_enter Try.func23,Try.ntmps23
  go_wp2_with (first|((with_reducible refine gate_dst (N:=2) rfl ?_);refine box_event ?hg (N:=2) ?hd (cs:=#[.slice A0_0 l0_0.length c0_0,.slice A0_1 l0_1.length c0_1]) (t:=26) ?hr ?_;(case hd=>rfl);(case hg=>rfl);(case hr=>first|(go_simp;done)|(go_simp;rfl));intro Bc hg w10 hbox hb;have n0_:=Am (bP (by repeat (first|(with_reducible first|exact HB.out|apply oA|apply pN|apply o1)|exact HB.out)) hb);have n1_:=Am (hbox);have n2_:=Am ((by rw [hg];exact (bZ (by repeat (first|(with_reducible first|exact HB.out|apply oA|apply pN|apply o1)|exact HB.out))):w.heap.size≤Bc));have n3_:=Am ((by rw [hg];exact (bZ (by repeat (first|(with_reducible first|exact HB.out|apply oA|apply pN|apply o1)|exact HB.out))):w.heap.size≤Bc));clear HB;revert n0_ n1_ n2_ n3_;intro HB Ba Bo Be;clear hb hbox hg)|((with_reducible refine gate_dst (N:=4) rfl ?_);refine box_event ?hg (N:=4) ?hd (cs:=#[.slice none 0 0,.slice none 0 0]) (t:=26) ?hr ?_;(case hd=>rfl);(case hg=>rfl);(case hr=>first|(go_simp;done)|(go_simp;rfl));intro Bd hg w11 hbox hb;have n0_:=Am (bX Ba.out hb);have n1_:=Am (bP (by repeat (first|(with_reducible first|exact HB.out|apply oA|apply pN|apply o1|refine bS ?_ Be.out)|exact HB.out)) hb);have n2_:=Am (hbox);have n3_:=Am ((by rw [hg];exact (bZ (by repeat (first|(with_reducible first|exact HB.out|apply oA|apply pN|apply o1|refine bS ?_ Be.out)|exact HB.out))):w.heap.size≤Bd));have n4_:=Am ((by rw [hg];exact (bZ (by repeat (first|(with_reducible first|exact HB.out|apply oA|apply pN|apply o1|refine bS ?_ Be.out)|exact HB.out))):w.heap.size≤Bd));have n5_:=Am ((nL Ba.out hg));have n6_:=Am ((nG Ba.out hg));clear Ba HB;revert n0_ n1_ n2_ n3_ n4_ n5_ n6_;intro Ba HB Bb Bp Bh Bk Bl;clear hb hbox hg;have Dt:=Bk.out;have Du:=Bl.out;have Bu:=cz0 Ba.out;have Bv:=cz1 Ba.out;have Bw:=bF Ba.out 0;have Bx:=bF Ba.out 1)|((with_reducible refine gate_callee (f:=42) rfl ?_);refine goesL_ (some 8) rfl rfl Try.func42 (by kernel_rfl) rfl #[.agg #[.slice A0_0 l0_0.length c0_0,.slice A0_1 l0_1.length c0_1]] rfl (by (try simp only [lM,lC,lN]);first|done|rfl|(simp only [lD,lT];rfl)) ?_;(with_reducible refine (spec_PagesOk.calls k _ _ l0_0 _ _ l0_1 true _ ?side1 ?side2 ?side3 ?side4 A3.out).mono ?_);(case side1=>repeat (first|exact (cB HR0_0.out HB.out)|(with_reducible refine cA ?_ _)|(with_reducible refine cN ?_ _)|(with_reducible refine cD ?_)));(case side2=>exact HC0_0.out);(case side3=>repeat (first|exact (cB HR0_1.out HB.out)|(with_reducible refine cA ?_ _)|(with_reducible refine cN ?_ _)|(with_reducible refine cD ?_)));(case side4=>exact HC0_1.out);rintro e w14 ⟨rfl,hb⟩;refine ⟨_,rfl,?_⟩;have n0_:=Am (bX Ba.out hb);have n1_:=Am (bX Bb.out hb);have n2_:=Am (bP (by repeat (first|(with_reducible first|exact HB.out|apply oA|apply pN|apply o1|refine bS ?_ Be.out|refine bS ?_ Bh.out)|exact HB.out)) hb);clear Ba Bb HB;revert n0_ n1_ n2_;intro Ba Bb HB;(try clear hb);(try clear hb2);(try clear hk);(try clear hi);have By:=cz0 Ba.out;have Bz:=cz1 Ba.out;have BA:=bF Ba.out 0;have BB:=bF Ba.out 1)|(go_at_call 50;(with_reducible refine (spec_l1Used.calls _ _ l0_0 _ _ l0_1 a1 true _ ?side1 ?side2 ?side3 ?side4 A5.out).mono ?_);(case side1=>repeat (first|exact (cB HR0_0.out HB.out)|(with_reducible refine cA ?_ _)|(with_reducible refine cN ?_ _)|(with_reducible refine cD ?_)));(case side2=>exact HC0_0.out);(case side3=>repeat (first|exact (cB HR0_1.out HB.out)|(with_reducible refine cA ?_ _)|(with_reducible refine cN ?_ _)|(with_reducible refine cD ?_)));(case side4=>exact HC0_1.out);rintro e w16 ⟨rfl,hb⟩;have n0_:=Am (bX Ba.out hb);have n1_:=Am (bX Bb.out hb);have n2_:=Am (bP (by repeat (first|(with_reducible first|exact HB.out|apply oA|apply pN|apply o1|refine bS ?_ Be.out|refine bS ?_ Bh.out)|exact HB.out)) hb);clear Ba Bb HB;revert n0_ n1_ n2_;intro Ba Bb HB;(try clear hb);(try clear hb2);(try clear hk);(try clear hi);have BC:=cz0 Ba.out;have BD:=cz1 Ba.out;have BE:=bF Ba.out 0;have BF:=bF Ba.out 1;have p282:0≤(a1:Int):=of_decide_eq_true (by first|(with_reducible assumption)|assumption);have q282:a1<(l0_1.length:Int):=of_decide_eq_true (by first|(with_reducible assumption)|assumption);obtain ⟨ad282,e282,hx282_0⟩:=Kd.at_int HR0_1.out a1 p282 q282;cases e282;replace hx282_0:=(HB.out.cell (World.block_lt_of_cell? w _ hx282_0)).trans hx282_0;replace p282:=eq_true p282;replace q282:=eq_true q282;have BG:=cz0 Bb.out;have BH:=cz1 Bb.out;have BI:=bF Bb.out 0;have BJ:=bF Bb.out 1))
  refine bodyPost_ret (results_ct rfl _ _ Bd 26 #[.slice none 0 0,.slice none 0 0] (0,0) _ rfl (by (with_reducible repeat (first|refine bN ?_ _|refine bD ?_|refine bA ?_ _));refine blk_put (cs:=#[.slice none 0 0,.slice none 0 0]) ?_ 1 _ rfl;(with_reducible repeat (first|refine bN ?_ _|refine bD ?_|refine bA ?_ _));refine blk_put (cs:=#[.slice none 0 0,.slice none 0 0]) ?_ 0 _ rfl;(with_reducible repeat (first|refine bN ?_ _|refine bD ?_|refine bA ?_ _));exact Bb.out) Try.underlying26 rfl (by kernel_rfl)) rfl ?_
  exact ⟨_,_,by first|rfl|(simp [errW_none,errW_some] <;> rfl)|(simp [*,errW_none,errW_some] <;> rfl),by first|exact Kd.R_nil _ _ _ _ _|exact Kd.N_nil _ _ _ _ _|exact Kd.V_nil _ _ _ _ _|exact Kd.Q_nil _ _ _ _ _|exact Kd.S_nil _ _ _ _ _,by first|exact Kd.R_nil _ _ _ _ _|exact Kd.N_nil _ _ _ _ _|exact Kd.V_nil _ _ _ _ _|exact Kd.Q_nil _ _ _ _ _|exact Kd.S_nil _ _ _ _ _,by repeat (first|(with_reducible first|exact HB.out|apply oA|apply pN|apply o1|refine bS ?_ Be.out|refine bS ?_ Bh.out)|exact HB.out)⟩
 rw [if_neg c9] at H
 have c9b0:decide (99≤(rd l0_1 a1))=false:=decide_eq_false c9
 clear c9
 replace H:=oC H
 obtain ⟨⟨t283,t286⟩,A190,H⟩:=H
 replace H:(if a1<(t286.length:Int) then (some (t283,(t286.set (a1:Int).toNat (wrap64 ((rd t286 a1) + 1))),true)) else (none))=some (r1,r2,r3):=H
 have A19:=Am A190
 clear A190
 by_cases c20:a1<(t286.length:Int)
 rotate_left
 ·rw [if_neg c20] at H
  exact absurd H (by simp)
 rw [if_pos c20] at H
 have c20b0:decide (a1<(t286.length:Int))=true:=decide_eq_true c20
 clear c20
 obtain ⟨y291,hy291⟩:∃ y_:List Int,y_=(t286.set (a1:Int).toNat (wrap64 ((rd t286 a1) + 1))):=⟨_,rfl⟩
 replace H:(some (t283,y291,true))=some (r1,r2,r3):=by first|(rw [hy291];with_reducible exact H)|(have H2_:=(Option.bind_some _ _).symm.trans H;rw [hy291];with_reducible exact H2_)|(have H2_:=(Option.bind_some _ _).symm.trans H;with_reducible exact H2_)|with_reducible exact H|(rw [hy291];exact H)|exact H
 have Ny291:=Am hy291
 clear hy291
 simp only [Option.some.injEq,Prod.mk.injEq] at H
 obtain ⟨rfl,rfl,rfl⟩:=H
 go_enter Try.func23,Try.ntmps23
 try go_wp2_with (first|((with_reducible refine gate_dst (N:=2) rfl ?_);refine box_event ?hg (N:=2) ?hd (cs:=#[.slice A0_0 l0_0.length c0_0,.slice A0_1 l0_1.length c0_1]) (t:=26) ?hr ?_;(case hd=>rfl);(case hg=>rfl);(case hr=>first|(go_simp;done)|(go_simp;rfl));intro Bc hg w22 hbox hb;have n0_:=Am (bP (by repeat (first|(with_reducible first|exact HB.out|apply oA|apply pN|apply o1)|exact HB.out)) hb);have n1_:=Am (hbox);have n2_:=Am ((by rw [hg];exact (bZ (by repeat (first|(with_reducible first|exact HB.out|apply oA|apply pN|apply o1)|exact HB.out))):w.heap.size≤Bc));have n3_:=Am ((by rw [hg];exact (bZ (by repeat (first|(with_reducible first|exact HB.out|apply oA|apply pN|apply o1)|exact HB.out))):w.heap.size≤Bc));clear HB;revert n0_ n1_ n2_ n3_;intro HB Ba Bo Be;clear hb hbox hg)|((with_reducible refine gate_dst (N:=4) rfl ?_);refine box_event ?hg (N:=4) ?hd (cs:=#[.slice none 0 0,.slice none 0 0]) (t:=26) ?hr ?_;(case hd=>rfl);(case hg=>rfl);(case hr=>first|(go_simp;done)|(go_simp;rfl));intro Bd hg w23 hbox hb;have n0_:=Am (bX Ba.out hb);have n1_:=Am (bP (by repeat (first|(with_reducible first|exact HB.out|apply oA|apply pN|apply o1|refine bS ?_ Be.out)|exact HB.out)) hb);have n2_:=Am (hbox);have n3_:=Am ((by rw [hg];exact (bZ (by repeat (first|(with_reducible first|exact HB.out|apply oA|apply pN|apply o1|refine bS ?_ Be.out)|exact HB.out))):w.heap.size≤Bd));have n4_:=Am ((by rw [hg];exact (bZ (by repeat (first|(with_reducible first|exact HB.out|apply oA|apply pN|apply o1|refine bS ?_ Be.out)|exact HB.out))):w.heap.size≤Bd));have n5_:=Am ((nL Ba.out hg));have n6_:=Am ((nG Ba.out hg));clear Ba HB;revert n0_ n1_ n2_ n3_ n4_ n5_ n6_;intro Ba HB Bb Bp Bh Bk Bl;clear hb hbox hg;have Dv:=Bk.out;have Dw:=Bl.out;have BK:=cz0 Ba.out;have BL:=cz1 Ba.out;have BM:=bF Ba.out 0;have BN:=bF Ba.out 1)|((with_reducible refine gate_callee (f:=42) rfl ?_);refine goesL_ (some 8) rfl rfl Try.func42 (by kernel_rfl) rfl #[.agg #[.slice A0_0 l0_0.length c0_0,.slice A0_1 l0_1.length c0_1]] rfl (by (try simp only [lM,lC,lN]);first|done|rfl|(simp only [lD,lT];rfl)) ?_;(with_reducible refine (spec_PagesOk.calls k _ _ l0_0 _ _ l0_1 true _ ?side1 ?side2 ?side3 ?side4 A3.out).mono ?_);(case side1=>repeat (first|exact (cB HR0_0.out HB.out)|(with_reducible refine cA ?_ _)|(with_reducible refine cN ?_ _)|(with_reducible refine cD ?_)));(case side2=>exact HC0_0.out);(case side3=>repeat (first|exact (cB HR0_1.out HB.out)|(with_reducible refine cA ?_ _)|(with_reducible refine cN ?_ _)|(with_reducible refine cD ?_)));(case side4=>exact HC0_1.out);rintro e w26 ⟨rfl,hb⟩;refine ⟨_,rfl,?_⟩;have n0_:=Am (bX Ba.out hb);have n1_:=Am (bX Bb.out hb);have n2_:=Am (bP (by repeat (first|(with_reducible first|exact HB.out|apply oA|apply pN|apply o1|refine bS ?_ Be.out|refine bS ?_ Bh.out)|exact HB.out)) hb);clear Ba Bb HB;revert n0_ n1_ n2_;intro Ba Bb HB;(try clear hb);(try clear hb2);(try clear hk);(try clear hi);have BO:=cz0 Ba.out;have BP:=cz1 Ba.out;have BQ:=bF Ba.out 0;have BR:=bF Ba.out 1)|(go_at_call 50;(with_reducible refine (spec_l1Used.calls _ _ l0_0 _ _ l0_1 a1 true _ ?side1 ?side2 ?side3 ?side4 A5.out).mono ?_);(case side1=>repeat (first|exact (cB HR0_0.out HB.out)|(with_reducible refine cA ?_ _)|(with_reducible refine cN ?_ _)|(with_reducible refine cD ?_)));(case side2=>exact HC0_0.out);(case side3=>repeat (first|exact (cB HR0_1.out HB.out)|(with_reducible refine cA ?_ _)|(with_reducible refine cN ?_ _)|(with_reducible refine cD ?_)));(case side4=>exact HC0_1.out);rintro e w28 ⟨rfl,hb⟩;have n0_:=Am (bX Ba.out hb);have n1_:=Am (bX Bb.out hb);have n2_:=Am (bP (by repeat (first|(with_reducible first|exact HB.out|apply oA|apply pN|apply o1|refine bS ?_ Be.out|refine bS ?_ Bh.out)|exact HB.out)) hb);clear Ba Bb HB;revert n0_ n1_ n2_;intro Ba Bb HB;(try clear hb);(try clear hb2);(try clear hk);(try clear hi);have BS:=cz0 Ba.out;have BT:=cz1 Ba.out;have BU:=bF Ba.out 0;have BV:=bF Ba.out 1;have p282:0≤(a1:Int):=of_decide_eq_true (by first|(with_reducible assumption)|assumption);have q282:a1<(l0_1.length:Int):=of_decide_eq_true (by first|(with_reducible assumption)|assumption);obtain ⟨ad282,e282,hx282_0⟩:=Kd.at_int HR0_1.out a1 p282 q282;cases e282;replace hx282_0:=(HB.out.cell (World.block_lt_of_cell? w _ hx282_0)).trans hx282_0;replace p282:=eq_true p282;replace q282:=eq_true q282)|((with_reducible refine gate_callee (f:=52) rfl ?_);refine goesL_ (some 26) rfl rfl Try.func52 (by kernel_rfl) rfl #[.agg #[.slice A0_0 l0_0.length c0_0,.slice (some ad282) l0_1.length c0_1]] rfl (by (try simp only [lM,lC,lN]);first|done|rfl|(simp only [lD,lT];rfl)) ?_;(with_reducible refine (spec_l1Copy.calls _ _ l0_0 _ _ l0_1 t283 t286 _ ?side1 ?side2 ?side3 ?side4 A19.out).mono ?_);(case side1=>repeat (first|exact (cB HR0_0.out HB.out)|(with_reducible refine cA ?_ _)|(with_reducible refine cN ?_ _)|(with_reducible refine cD ?_)));(case side2=>exact HC0_0.out);(case side3=>repeat (first|exact (cB HR0_1.out HB.out)|(with_reducible refine cA ?_ _)|(with_reducible refine cN ?_ _)|(with_reducible refine cD ?_)));(case side4=>exact HC0_1.out);rintro e w30 ⟨v284,v287,rfl,ho0,ho1,hb⟩;refine ⟨_,rfl,?_⟩;have n0_:=Am (Kd.R_lower ho0 (bZ (by repeat (first|(with_reducible first|exact HB.out|apply oA|apply pN|apply o1|refine bS ?_ Be.out|refine bS ?_ Bh.out)|exact HB.out))));have n1_:=Am (Kd.R_lower ho1 (bZ (by repeat (first|(with_reducible first|exact HB.out|apply oA|apply pN|apply o1|refine bS ?_ Be.out|refine bS ?_ Bh.out)|exact HB.out))));have n2_:=Am (bX Ba.out hb);have n3_:=Am (bX Bb.out hb);have n4_:=Am (bP (by repeat (first|(with_reducible first|exact HB.out|apply oA|apply pN|apply o1|refine bS ?_ Be.out|refine bS ?_ Bh.out)|exact HB.out)) hb);clear Ba Bb HB;revert n0_ n1_ n2_ n3_ n4_;intro Bj Bi Ba Bb HB;(try clear hb);(try clear hb2);(try clear hk);(try clear hi);(try clear ho0);(try clear ho1))|((with_reducible refine gate_dst (N:=6) rfl ?_);refine box_event ?hg (N:=6) ?hd (cs:=#[.slice none 0 0,.slice none 0 0]) (t:=26) ?hr ?_;(case hd=>rfl);(case hg=>rfl);(case hr=>first|(go_simp;done)|(go_simp;rfl));intro Bf hg w31 hbox hb;have n0_:=Am (rB (rL Bj.out) hb);have n1_:=Am (rB (rL Bi.out) hb);have n2_:=Am (bX Ba.out hb);have n3_:=Am (bX Bb.out hb);have n4_:=Am (bP (by repeat (first|(with_reducible first|exact HB.out|apply oA|apply pN|apply o1|refine bS ?_ Be.out|refine bS ?_ Bh.out)|exact HB.out)) hb);have n5_:=Am (hbox);have n6_:=Am ((by rw [hg];exact (bZ (by repeat (first|(with_reducible first|exact HB.out|apply oA|apply pN|apply o1|refine bS ?_ Be.out|refine bS ?_ Bh.out)|exact HB.out))):w.heap.size≤Bf));have n7_:=Am ((by rw [hg];exact (bZ (by repeat (first|(with_reducible first|exact HB.out|apply oA|apply pN|apply o1|refine bS ?_ Be.out|refine bS ?_ Bh.out)|exact HB.out))):w.heap.size≤Bf));have n8_:=Am ((nL Ba.out hg));have n9_:=Am ((nG Ba.out hg));have n10_:=Am ((nL Bb.out hg));have n11_:=Am ((nG Bb.out hg));clear Bj Bi Ba Bb HB;revert n0_ n1_ n2_ n3_ n4_ n5_ n6_ n7_ n8_ n9_ n10_ n11_;intro Bj Bi Ba Bb HB Bg Dx Bq Bm Br Bn Bs;clear hb hbox hg;obtain ⟨Ao32,co32,eo32⟩:=Kd.R_slice Bj.out;subst eo32;have Dy:=Br.out;have Dz:=Bm.out;have DA:=Bs.out;have DB:=Bn.out;have BW:=cz0 Bg.out;have BX:=cz1 Bg.out;have BY:=bF Bg.out 0;have BZ:=bF Bg.out 1;obtain ⟨Ao36,co36,eo36⟩:=Kd.R_slice Bi.out;subst eo36))
 have n0_:Aside0 (Kd.R Kd.string 9 ((w31.setCell ⟨Bf,0,none⟩ (.slice Ao32 t283.length co32)).setCell ⟨Bf,1,none⟩ (.slice Ao36 t286.length co36)) w.heap.size (fun _=>True) (.slice Ao32 t283.length co32) t283):=⟨by (with_reducible repeat (first|apply rA|apply rN|apply rD));exact rM (rF (p:=⟨Bf,1,none⟩) (rF (p:=⟨Bf,0,none⟩) (rT Bj.out Bg.out (by decide)) (fun _ hk=>hk.2) (.slice Ao32 t283.length co32)) (fun _ hk=>hk.2) (.slice Ao36 t286.length co36)) (fun _ hk=>trivial)⟩
 have n1_:Aside0 (Kd.R (Kd.int .i64) 3 ((w31.setCell ⟨Bf,0,none⟩ (.slice Ao32 t283.length co32)).setCell ⟨Bf,1,none⟩ (.slice Ao36 t286.length co36)) w.heap.size (fun _=>True) (.slice Ao36 t286.length co36) t286):=⟨by (with_reducible repeat (first|apply rA|apply rN|apply rD));exact rM (rF (p:=⟨Bf,1,none⟩) (rF (p:=⟨Bf,0,none⟩) (rT Bi.out Bg.out (by decide)) (fun _ hk=>hk.2) (.slice Ao32 t283.length co32)) (fun _ hk=>hk.2) (.slice Ao36 t286.length co36)) (fun _ hk=>trivial)⟩
 have n2_:Aside0 (((w31.setCell ⟨Bf,0,none⟩ (.slice Ao32 t283.length co32)).setCell ⟨Bf,1,none⟩ (.slice Ao36 t286.length co36)).heap[Bc]?=some (.cells #[.slice A0_0 l0_0.length c0_0,.slice (some ad282) l0_1.length c0_1] 26 (0,0))):=⟨by (with_reducible repeat (first|refine bN ?_ _|refine bD ?_|refine bA ?_ _|refine blk_far ?_ Bm.out _));exact Ba.out⟩
 have n3_:Aside0 (((w31.setCell ⟨Bf,0,none⟩ (.slice Ao32 t283.length co32)).setCell ⟨Bf,1,none⟩ (.slice Ao36 t286.length co36)).heap[Bd]?=some (.cells #[.slice none 0 0,.slice none 0 0] 26 (0,0))):=⟨by (with_reducible repeat (first|refine bN ?_ _|refine bD ?_|refine bA ?_ _|refine blk_far ?_ Bn.out _));exact Bb.out⟩
 have n4_:Aside0 (((w31.setCell ⟨Bf,0,none⟩ (.slice Ao32 t283.length co32)).setCell ⟨Bf,1,none⟩ (.slice Ao36 t286.length co36)).heap[Bf]?=some (.cells #[.slice Ao32 t283.length co32,.slice Ao36 t286.length co36] 26 (0,0))):=⟨by (with_reducible repeat (first|refine bN ?_ _|refine bD ?_|refine bA ?_ _));refine blk_put (cs:=#[.slice Ao32 t283.length co32,.slice none 0 0]) ?_ 1 _ rfl;(with_reducible repeat (first|refine bN ?_ _|refine bD ?_|refine bA ?_ _));refine blk_put (cs:=#[.slice none 0 0,.slice none 0 0]) ?_ 0 _ rfl;(with_reducible repeat (first|refine bN ?_ _|refine bD ?_|refine bA ?_ _));exact Bg.out⟩
 have n5_:Aside0 (Below w.heap.size w ((w31.setCell ⟨Bf,0,none⟩ (.slice Ao32 t283.length co32)).setCell ⟨Bf,1,none⟩ (.slice Ao36 t286.length co36))):=⟨by repeat (first|(with_reducible first|exact HB.out|apply oA|apply pN|apply o1|refine bS ?_ Be.out|refine bS ?_ Bh.out|refine bS ?_ Bq.out)|exact HB.out)⟩
 (try clear Bj)
 (try clear Bi)
 (try clear Ba)
 (try clear Bb)
 (try clear Bg)
 (try clear HB)
 generalize ((w31.setCell ⟨Bf,0,none⟩ (.slice Ao32 t283.length co32)).setCell ⟨Bf,1,none⟩ (.slice Ao36 t286.length co36))=w37 at n0_ n1_ n2_ n3_ n4_ n5_ ⊢
 have Bj:=n0_
 have Bi:=n1_
 have Ba:=n2_
 have Bb:=n3_
 have Bg:=n4_
 have HB:=n5_
 clear n0_ n1_ n2_ n3_ n4_ n5_
 have n0_:=Am (rD Bj.out)
 have n1_:=Am (rD Bi.out)
 have n2_:=Am (bD Ba.out)
 have n3_:=Am (bD Bb.out)
 have n4_:=Am (bD Bg.out)
 have n5_:=Am (o1 HB.out)
 clear Bj
 clear Bi
 clear Ba
 clear Bb
 clear Bg
 clear HB
 have Bj:=n0_
 have Bi:=n1_
 have Ba:=n2_
 have Bb:=n3_
 have Bg:=n4_
 have HB:=n5_
 clear n0_ n1_ n2_ n3_ n4_ n5_
 have p290:0≤(a1:Int):=of_decide_eq_true (by first|(with_reducible assumption)|assumption)
 have q290:a1<(t286.length:Int):=of_decide_eq_true (by first|(with_reducible assumption)|assumption)
 obtain ⟨ad290,e290,hx290_0⟩:=Kd.at_int (Kd.R_reads' Bi.out).2.2 a1 p290 q290
 cases e290
 replace p290:=eq_true p290
 replace q290:=eq_true q290
 have p21:0≤(a1:Int):=of_decide_eq_true (by first|(with_reducible assumption)|assumption)
 have q21:(a1:Int)<((t286.length:Int):Int):=of_decide_eq_true (by first|(with_reducible assumption)|assumption)
 obtain ⟨go21,co21,eo21,Bt,gl21,cl21,HG21⟩:=Kd.R_form Bi.out (by omega)
 (first|cases eo21|(injection eo21 with ea_ en_ ec_;(first|subst ea_|(injection ea_ with ea_;subst ea_));subst ec_;clear en_))
 have GB21:=Am Bt
 have GG21:=Am HG21
 clear Bt gl21 HG21
 (first|simp only [add_plain] at hx290_0|skip)
 obtain ⟨hx21_0,hf21_0⟩:=Kd.R_celln 0 Bi.out (a1:Int) p21 q21
 replace p21:=eq_true p21
 replace q21:=eq_true q21
 have HP39:=Kd.R_putn Bi.out (a1:Int) (wrap64 ((rd t286 a1) + 1))
 rw [← Ny291.out] at HP39
 have HQ39:=Am HP39
 clear HP39
 refine start_ (n:=11) (S:=fun w'=>w'.cell? ⟨Bf,0,none⟩=some (.slice Ao32 t283.length co32)∧w'.cell? ⟨Bf,1,none⟩=some (.slice (some ⟨go21,0,none⟩) t286.length co36)∧w'.cell? ⟨go21,(a1).toNat,none⟩=some (.int .i64 (rd t286 a1))) (ds:=[10]) z23q0 (by kernel_rfl) rfl rfl ⟨(bC Bg.out 0).trans rfl,(bC Bg.out 1).trans rfl,hx290_0⟩ (fun hHeld=>?_);refine with_st spec_PagesKeep.tab4 spec_PagesKeep.bits4 (fun _ _ _ _ _ h=>h) (fun HT_=>?_)
 generalize w37.drew=w38 at Bj Bi Ba Bb Bg HB GG21 HQ39 hf21_0 hx21_0 hx290_0 hHeld ⊢
 refine pS 0 27 z23q1 HT_ rfl rfl (by kernel_rfl) (by rfl) (by intro w';go_simp;with_reducible rfl) (by simp only [Act.put,lA,lZ,lS,iw,jw];rfl) ?_
 refine pS 2 29 z23q2 HT_ rfl rfl (by kernel_rfl) (by rfl) (by intro w';go_simp;with_reducible rfl) (by simp only [Act.put,lA,lZ,lS,iw,jw];rfl) ?_
 refine pS 3 30 z23q3 HT_ rfl rfl (by kernel_rfl) (by rfl) (by intro w';go_simp;with_reducible rfl) (by simp only [Act.put,lA,lZ,lS,iw,jw];rfl) ?_
 refine pS 5 32 z23q4 HT_ rfl rfl (by kernel_rfl) (by rfl) (by intro w';go_simp;with_reducible rfl) (by simp only [Act.put,lA,lZ,lS,iw,jw];rfl) ?_
 refine tS 1 28 z23q5 HT_ hHeld rfl rfl (by kernel_rfl) (by rfl) (by rintro w' ⟨s0,s1,s2⟩;go_simp;with_reducible rfl) (by simp only [Act.put,lA,lZ,lS,iw,jw];rfl) ?_
 refine tS 4 31 z23q6 HT_ hHeld rfl rfl (by kernel_rfl) (by rfl) (by rintro w' ⟨s0,s1,s2⟩;go_simp;with_reducible rfl) (by simp only [Act.put,lA,lZ,lS,iw,jw];rfl) ?_
 refine pS 6 33 z23q7 HT_ rfl rfl (by kernel_rfl) (by rfl) (by intro w';go_simp;with_reducible rfl) (by simp only [Act.put,lA,lZ,lS,iw,jw];rfl) ?_
 refine tS 7 34 z23q8 HT_ hHeld rfl rfl (by kernel_rfl) (by rfl) (by rintro w' ⟨s0,s1,s2⟩;go_simp;with_reducible rfl) (by simp only [Act.put,lA,lZ,lS,iw,jw];rfl) ?_
 refine pS 8 35 z23q9 HT_ rfl rfl (by kernel_rfl) (by rfl) (by intro w';go_simp;with_reducible rfl) (by simp only [Act.put,lA,lZ,lS,iw,jw];rfl) ?_
 refine pS 9 36 z23q10 HT_ rfl rfl (by kernel_rfl) (by rfl) (by intro w';go_simp;with_reducible rfl) (by simp only [Act.put,lA,lZ,lS,iw,jw];rfl) ?_
 refine last_ (i:=10) (N:=none) z23q11 rfl rfl (one_of HT_.out (by kernel_rfl)) (by decide) (fun K hK=>?_)
 refine skip_ (w1:=?_) (by rfl) rfl ?_ ?_
 rotate_left;(go_simp;rfl)
 refine hK.out _ _ ?_
 clear hK K
 refine done_ (done_of HT_.out (by kernel_rfl)) ?_
 have n0_:Aside0 (Kd.R Kd.string 9 (w38.setCell ⟨go21,(a1:Int).toNat,none⟩ (.int .i64 (wrap64 ((rd t286 a1) + 1)))) w.heap.size (fun _=>True) (.slice Ao32 t283.length co32) t283):=⟨by (with_reducible repeat (first|apply rA|apply rN|apply rD));exact rM (rF (p:=⟨go21,(a1:Int).toNat,none⟩) (rT Bj.out GG21.out (by decide)) (fun _ hk=>hk.2) (.int .i64 (wrap64 ((rd t286 a1) + 1)))) (fun _ hk=>trivial)⟩
 have n1_:Aside0 (Kd.R (Kd.int .i64) 3 (w38.setCell ⟨go21,(a1:Int).toNat,none⟩ (.int .i64 (wrap64 ((rd t286 a1) + 1)))) w.heap.size (fun _=>True) (.slice (some ⟨go21,0,none⟩) t286.length co36) y291):=⟨by (with_reducible repeat (first|apply rA|apply rN|apply rD));exact HQ39.out⟩
 have n2_:Aside0 ((w38.setCell ⟨go21,(a1:Int).toNat,none⟩ (.int .i64 (wrap64 ((rd t286 a1) + 1)))).heap[Bc]?=some (.cells #[.slice A0_0 l0_0.length c0_0,.slice (some ad282) l0_1.length c0_1] 26 (0,0))):=⟨by (with_reducible repeat (first|refine bN ?_ _|refine bD ?_|refine bA ?_ _));refine blk_far ?_ (by have h_:=Kd.R_ne Bi.out Ba.out (by decide);intro e_;exact h_ (by rw [e_];rfl)) _;(with_reducible repeat (first|refine bN ?_ _|refine bD ?_|refine bA ?_ _));exact Ba.out⟩
 have n3_:Aside0 ((w38.setCell ⟨go21,(a1:Int).toNat,none⟩ (.int .i64 (wrap64 ((rd t286 a1) + 1)))).heap[Bd]?=some (.cells #[.slice none 0 0,.slice none 0 0] 26 (0,0))):=⟨by (with_reducible repeat (first|refine bN ?_ _|refine bD ?_|refine bA ?_ _));refine blk_far ?_ (by have h_:=Kd.R_ne Bi.out Bb.out (by decide);intro e_;exact h_ (by rw [e_];rfl)) _;(with_reducible repeat (first|refine bN ?_ _|refine bD ?_|refine bA ?_ _));exact Bb.out⟩
 have n4_:Aside0 ((w38.setCell ⟨go21,(a1:Int).toNat,none⟩ (.int .i64 (wrap64 ((rd t286 a1) + 1)))).heap[Bf]?=some (.cells #[.slice Ao32 t283.length co32,.slice (some ⟨go21,0,none⟩) t286.length co36] 26 (0,0))):=⟨by (with_reducible repeat (first|refine bN ?_ _|refine bD ?_|refine bA ?_ _));refine blk_far ?_ (by have h_:=Kd.R_ne Bi.out Bg.out (by decide);intro e_;exact h_ (by rw [e_];rfl)) _;(with_reducible repeat (first|refine bN ?_ _|refine bD ?_|refine bA ?_ _));exact Bg.out⟩
 have n5_:Aside0 (Below w.heap.size w (w38.setCell ⟨go21,(a1:Int).toNat,none⟩ (.int .i64 (wrap64 ((rd t286 a1) + 1))))):=⟨by repeat (first|(with_reducible first|exact HB.out|apply oA|apply pN|apply o1|refine bS ?_ GB21.out|refine bS ?_ Be.out|refine bS ?_ Bh.out|refine bS ?_ Bq.out)|exact HB.out)⟩
 (try clear Bj)
 (try clear Bi)
 (try clear Ba)
 (try clear Bb)
 (try clear Bg)
 (try clear HB)
 generalize (w38.setCell ⟨go21,(a1:Int).toNat,none⟩ (.int .i64 (wrap64 ((rd t286 a1) + 1))))=w40 at n0_ n1_ n2_ n3_ n4_ n5_ ⊢
 have Bj:=n0_
 have Bi:=n1_
 have Ba:=n2_
 have Bb:=n3_
 have Bg:=n4_
 have HB:=n5_
 clear n0_ n1_ n2_ n3_ n4_ n5_
 have B0:=cz0 Bg.out
 have B1:=cz1 Bg.out
 have B2:=bF Bg.out 0
 have B3:=bF Bg.out 1
 have B5:=cz0 Bb.out
 have B6:=cz1 Bb.out
 have B7:=bF Bb.out 0
 have B8:=bF Bb.out 1
 try go_wp2
 refine bodyPost_ret (results_ct rfl _ _ Bd 26 #[.slice Ao32 t283.length co32,.slice (some ⟨go21,0,none⟩) t286.length co36] (0,0) _ rfl (by (with_reducible repeat (first|refine bN ?_ _|refine bD ?_|refine bA ?_ _));refine blk_put (cs:=#[.slice Ao32 t283.length co32,.slice none 0 0]) ?_ 1 _ rfl;(with_reducible repeat (first|refine bN ?_ _|refine bD ?_|refine bA ?_ _));refine blk_put (cs:=#[.slice none 0 0,.slice none 0 0]) ?_ 0 _ rfl;(with_reducible repeat (first|refine bN ?_ _|refine bD ?_|refine bA ?_ _));exact Bb.out) Try.underlying26 rfl (by kernel_rfl)) rfl ?_
 exact ⟨_,_,by first|rfl|(simp [errW_none,errW_some] <;> rfl)|(simp [*,errW_none,errW_some] <;> rfl),by (with_reducible repeat (first|apply rA|apply rN|apply rD));exact rM (rF (p:=⟨Bd,1,none⟩) (rF (p:=⟨Bd,0,none⟩) (rT Bj.out Bb.out (by decide)) (fun _ hk=>hk.2) (.slice Ao32 t283.length co32)) (fun _ hk=>hk.2) (.slice (some ⟨go21,0,none⟩) t286.length co36)) (fun _ hk=>trivial),by (with_reducible repeat (first|apply rA|apply rN|apply rD));exact rM (rF (p:=⟨Bd,1,none⟩) (rF (p:=⟨Bd,0,none⟩) (rT Bi.out Bb.out (by decide)) (fun _ hk=>hk.2) (.slice Ao32 t283.length co32)) (fun _ hk=>hk.2) (.slice (some ⟨go21,0,none⟩) t286.length co36)) (fun _ hk=>trivial),by repeat (first|(with_reducible first|exact HB.out|apply oA|apply pN|apply o1|refine bS ?_ Be.out|refine bS ?_ Bh.out|refine bS ?_ Bq.out)|exact HB.out)⟩
-- NOT PRINTED: function 56 (impl_Pages_give)

end Go.Proofs.Ytpdfkbggaihfpaa.PFnPagesKeep
