/- Proved here, without a condition beyond those that each theorem states: what the Go functions named below do is what the plain functions of the same names say. Written by xprint.py, a program of this session. -/
import Derived.Test.YtiifanjjohophaaPFnSigsSendx0
import Derived.Test.YtiifanjjohophaaPFnSigsSendx3
import Derived.Test.YtiifanjjohophaaPFnSigsSendx8
import Derived.Test.YtiifanjjohophaaPFnSigsSendx9
namespace Go.Proofs.Ytiifanjjohophaa.PFnSigsSend
open Go.RowKit Go.Proofs.YtiifanjjohophaaW.PrintWords Go.Proofs.YtiifanjjohophaaW.PrintLast Go.Proofs.YtiifanjjohophaaW.PrintMore
attribute [local go_sem] max2_int min2_int max_two min_two max_three min_three max_four min_four   -- for this text's walks alone
set_option linter.unusedVariables false
set_option linter.unusedSimpArgs false

attribute [local go_sem ↓] isSome_setCell_
/-! ### impl_SigsSend: function 34 -/
mutual
def impl_SigsSend.j0 : Nat → Int → Bool → List Bool → List Bool → List Int → Option (List Bool × List Bool × List Int × Bool)
|0, _, _, _, _, _ => none
|k + 1, x1, x14, x216000, x216001, x216002 => if x14 = true then (some (([] : List Bool), ([] : List Bool), ([] : List Int), false)) else ((impl_Sigs_clone.f x216000 x216001 x216002).bind fun bt219 => (if x1 = 2 then (impl_SigsSend.j1 k x1 x1 (x1 == 2) x216000 x216001 x216002 bt219.1 bt219.2.1 bt219.2.2) else (impl_SigsSend.j1 k x1 x1 (x1 == 6) x216000 x216001 x216002 bt219.1 bt219.2.1 bt219.2.2)))
def impl_SigsSend.j1 : Nat → Int → Int → Bool → List Bool → List Bool → List Int → List Bool → List Bool → List Int → Option (List Bool × List Bool × List Int × Bool)
|0, _, _, _, _, _, _, _, _, _ => none
|k + 1, x1, x18, x19, x216000, x216001, x216002, x229000, x229001, x229002 => if x19 = true then (if 2 < (x229000.length : Int) then ((some (x229000.set (2 : Int).toNat false : List Bool)).bind fun y229 => (if 0 ≤ (wrap64 (x1 - 1)) then (if (wrap64 (x1 - 1)) < (x216001.length : Int) then (if rdOf false x216001 (wrap64 (x1 - 1)) = true then (if (wrap64 (x1 - 1)) < (x229000.length : Int) then (some ((y229.set ((wrap64 (x1 - 1)) : Int).toNat true), x229001, x229002, true)) else (none)) else ((impl_Sigs_does.f k x216000 x216001 x216002 x1).bind fun t232 => (if t232 = 1 then (some (y229, x229001, x229002, true)) else (if (wrap64 (x1 - 1)) < (x229000.length : Int) then (some ((y229.set ((wrap64 (x1 - 1)) : Int).toNat true), x229001, x229002, true)) else (none))))) else (none)) else (none))) else (none)) else (if x18 = 3 then (if 1 < (x229000.length : Int) then (if 5 < (x229000.length : Int) then ((some ((x229000.set (1 : Int).toNat false).set (5 : Int).toNat false : List Bool)).bind fun y235 => (if 0 ≤ (wrap64 (x1 - 1)) then (if (wrap64 (x1 - 1)) < (x216001.length : Int) then (if rdOf false x216001 (wrap64 (x1 - 1)) = true then (if (wrap64 (x1 - 1)) < (x229000.length : Int) then (some ((y235.set ((wrap64 (x1 - 1)) : Int).toNat true), x229001, x229002, true)) else (none)) else ((impl_Sigs_does.f k x216000 x216001 x216002 x1).bind fun t238 => (if t238 = 1 then (some (y235, x229001, x229002, true)) else (if (wrap64 (x1 - 1)) < (x229000.length : Int) then (some ((y235.set ((wrap64 (x1 - 1)) : Int).toNat true), x229001, x229002, true)) else (none))))) else (none)) else (none))) else (none)) else (none)) else (if 0 ≤ (wrap64 (x1 - 1)) then (if (wrap64 (x1 - 1)) < (x216001.length : Int) then (if rdOf false x216001 (wrap64 (x1 - 1)) = true then (if (wrap64 (x1 - 1)) < (x229000.length : Int) then (some ((x229000.set ((wrap64 (x1 - 1)) : Int).toNat true), x229001, x229002, true)) else (none)) else ((impl_Sigs_does.f k x216000 x216001 x216002 x1).bind fun t242 => (if t242 = 1 then (some (x229000, x229001, x229002, true)) else (if (wrap64 (x1 - 1)) < (x229000.length : Int) then (some ((x229000.set ((wrap64 (x1 - 1)) : Int).toNat true), x229001, x229002, true)) else (none))))) else (none)) else (none)))
end
def impl_SigsSend.f (k : Nat) (l0_0 : List Bool) (l0_1 : List Bool) (l0_2 : List Int) (a1 : Int) : Option (List Bool × List Bool × List Int × Bool) := (impl_SigsOk.f k l0_0 l0_1 l0_2).bind fun t217 => (if t217 = true then ((impl_in.f a1 1 8).bind fun t218 => (impl_SigsSend.j0 k a1 (!t218) l0_0 l0_1 l0_2)) else (impl_SigsSend.j0 k a1 true l0_0 l0_1 l0_2))
theorem impl_SigsSend.mono_l : ∀ k, (∀ y0 y1 y2 y3 y4, LeO (impl_SigsSend.j0 k y0 y1 y2 y3 y4) (impl_SigsSend.j0 (k + 1) y0 y1 y2 y3 y4)) ∧ (∀ y0 y1 y2 y3 y4 y5 y6 y7 y8, LeO (impl_SigsSend.j1 k y0 y1 y2 y3 y4 y5 y6 y7 y8) (impl_SigsSend.j1 (k + 1) y0 y1 y2 y3 y4 y5 y6 y7 y8))
|0 => ⟨fun _ _ _ _ _ r h => by simp [impl_SigsSend.j0] at h, fun _ _ _ _ _ _ _ _ _ r h => by simp [impl_SigsSend.j1] at h⟩
|k + 1 => by
  obtain ⟨ih0, ih1⟩ := impl_SigsSend.mono_l k
  refine ⟨?_, ?_⟩
  ·intro y0 y1 y2 y3 y4
   unfold impl_SigsSend.j0
   repeat' first
  |(with_reducible exact ih0 _ _ _ _ _)
  |(with_reducible exact ih1 _ _ _ _ _ _ _ _ _)
  |(with_reducible exact impl_SigsOk.mono _ _ _ _)
  |(with_reducible exact impl_Sigs_does.mono _ _ _ _ _)
  |(with_reducible exact LeO.refl _)
  |(with_reducible exact LeO.none _)
  |(with_reducible refine LeO.ite ?_ ?_)
  |(with_reducible refine LeO.bind ?_ (fun _ => ?_))
  |exact ih0 _ _ _ _ _
  |exact ih1 _ _ _ _ _ _ _ _ _
  |exact impl_SigsOk.mono _ _ _ _
  |exact impl_Sigs_does.mono _ _ _ _ _
  |exact LeO.none _
  |refine LeO.ite ?_ ?_
  |refine LeO.bind ?_ (fun _ => ?_)
  ·intro y0 y1 y2 y3 y4 y5 y6 y7 y8
   unfold impl_SigsSend.j1
   repeat' first
  |(with_reducible exact ih0 _ _ _ _ _)
  |(with_reducible exact ih1 _ _ _ _ _ _ _ _ _)
  |(with_reducible exact impl_SigsOk.mono _ _ _ _)
  |(with_reducible exact impl_Sigs_does.mono _ _ _ _ _)
  |(with_reducible exact LeO.refl _)
  |(with_reducible exact LeO.none _)
  |(with_reducible refine LeO.ite ?_ ?_)
  |(with_reducible refine LeO.bind ?_ (fun _ => ?_))
  |exact ih0 _ _ _ _ _
  |exact ih1 _ _ _ _ _ _ _ _ _
  |exact impl_SigsOk.mono _ _ _ _
  |exact impl_Sigs_does.mono _ _ _ _ _
  |exact LeO.none _
  |refine LeO.ite ?_ ?_
  |refine LeO.bind ?_ (fun _ => ?_)
theorem impl_SigsSend.mono : ∀ a0 a1 a2 a3 k, LeO (impl_SigsSend.f k a0 a1 a2 a3) (impl_SigsSend.f (k + 1) a0 a1 a2 a3) := by
 intro a0 a1 a2 a3 k
 obtain ⟨ih0, ih1⟩ := impl_SigsSend.mono_l k
 unfold impl_SigsSend.f
 repeat' first
  |(with_reducible exact ih0 _ _ _ _ _)
  |(with_reducible exact ih1 _ _ _ _ _ _ _ _ _)
  |(with_reducible exact impl_SigsOk.mono _ _ _ _)
  |(with_reducible exact impl_Sigs_does.mono _ _ _ _ _)
  |(with_reducible exact LeO.refl _)
  |(with_reducible exact LeO.none _)
  |(with_reducible refine LeO.ite ?_ ?_)
  |(with_reducible refine LeO.bind ?_ (fun _ => ?_))
  |exact ih0 _ _ _ _ _
  |exact ih1 _ _ _ _ _ _ _ _ _
  |exact impl_SigsOk.mono _ _ _ _
  |exact impl_Sigs_does.mono _ _ _ _ _
  |exact LeO.none _
  |refine LeO.ite ?_ ?_
  |refine LeO.bind ?_ (fun _ => ?_)
def impl_SigsSend.T9 : Bool × List (List Nat × List Nat) := (true, [([], []), ([0], [0]), ([], []), ([2], [2]), ([1, 0, 1], [1]), ([4, 0, 1], [4]), ([3, 0, 1, 2, 3, 4, 5], [3]), ([6, 5, 0, 1, 2, 3, 4, 5], [6])])
def impl_SigsSend.B9 : List Nat := [0, 1, 0, 4, 3, 19, 63, 127]
theorem impl_SigsSend.tab9 : rtab .any (opsOf Try.f34 9) = impl_SigsSend.T9 := by kernel_rfl
theorem impl_SigsSend.bits9 : waitsOk impl_SigsSend.T9.2 impl_SigsSend.B9 = true := by kernel_rfl
abbrev z34q0 : Array Bool := bQ 8 0
abbrev z34q1 : Array Bool := bQ 8 1
abbrev z34q2 : Array Bool := bQ 8 5
abbrev z34q3 : Array Bool := bQ 8 7
abbrev z34q4 : Array Bool := bQ 8 23
abbrev z34q5 : Array Bool := bQ 8 31
abbrev z34q6 : Array Bool := bQ 8 63
abbrev z34q7 : Array Bool := bQ 8 127
abbrev z34q8 : Array Bool := bQ 8 255
set_option maxHeartbeats 2000000 in
set_option maxRecDepth 100000 in
theorem impl_SigsSend.calls (k:Nat) (A0_0:Option Addr) (c0_0:Nat) (l0_0:List Bool) (A0_1:Option Addr) (c0_1:Nat) (l0_1:List Bool) (A0_2:Option Addr) (c0_2:Nat) (l0_2:List Int) (a1:Int) (r1:List Bool) (r2:List Bool) (r3:List Int) (r4:Bool) (w:World) (hr0_0:Kd.C Kd.bool w A0_0 l0_0.length l0_0) (hc0_0:l0_0.length≤c0_0) (hr0_1:Kd.C Kd.bool w A0_1 l0_1.length l0_1) (hc0_1:l0_1.length≤c0_1) (hr0_2:Kd.C (Kd.int .i64) w A0_2 l0_2.length l0_2) (hc0_2:l0_2.length≤c0_2) (h:impl_SigsSend.f k l0_0 l0_1 l0_2 a1=some (r1,r2,r3,r4)) :
  Calls Try.prog 34 #[.agg #[.slice A0_0 l0_0.length c0_0,.slice A0_1 l0_1.length c0_1,.slice A0_2 l0_2.length c0_2],.int .i64 a1] w fun e w'=>∃ v0_ v1_ v2_:Value,e=.returned (.tuple #[.agg #[v0_,v1_,v2_],.bool r4])∧Kd.R Kd.bool 4 w' w.heap.size (fun k_=>some k_≠(v1_:Value).ownBlock) v0_ r1∧Kd.R Kd.bool 4 w' w.heap.size (fun k_=>some k_≠(v0_:Value).ownBlock) v1_ r2∧Kd.R (Kd.int .i64) 3 w' w.heap.size (fun _=>True) v2_ r3∧Below w.heap.size w w':=by
 have hu26:=Try.underlying26
 have HR0_0:=Am hr0_0
 have HC0_0:=Am hc0_0
 clear hr0_0 hc0_0
 have HR0_1:=Am hr0_1
 have HC0_1:=Am hc0_1
 clear hr0_1 hc0_1
 have HR0_2:=Am hr0_2
 have HC0_2:=Am hc0_2
 clear hr0_2 hc0_2
 have HB:=Am (Below.refl w.heap.size w)
 have H:((impl_SigsOk.f k l0_0 l0_1 l0_2).bind fun t217=>(if t217=true then ((impl_in.f a1 1 8).bind fun t218=>(impl_SigsSend.j0 k a1 (!t218) l0_0 l0_1 l0_2)) else (impl_SigsSend.j0 k a1 true l0_0 l0_1 l0_2)))=some (r1,r2,r3,r4):=h
 clear h
 have HC3:=Am H
 clear H
 go_enter Try.func34,Try.ntmps34
 go_upto_region 1 with (first|((with_reducible refine gate_dst (N:=2) rfl ?_);refine box_event ?hg (N:=2) ?hd (cs:=#[.slice A0_0 l0_0.length c0_0,.slice A0_1 l0_1.length c0_1,.slice A0_2 l0_2.length c0_2]) (t:=26) ?hr ?_;(case hd=>rfl);(case hg=>rfl);(case hr=>first|(go_simp;done)|(go_simp;rfl));intro Bi hg w4 hbox hb;have n0_:=Am (bP (by repeat (first|(with_reducible first|exact HB.out|apply oA|apply pN|apply o1)|exact HB.out)) hb);have n1_:=Am (hbox);have n2_:=Am ((by rw [hg];exact (bZ (by repeat (first|(with_reducible first|exact HB.out|apply oA|apply pN|apply o1)|exact HB.out))):w.heap.size≤Bi));have n3_:=Am ((by rw [hg];exact (bZ (by repeat (first|(with_reducible first|exact HB.out|apply oA|apply pN|apply o1)|exact HB.out))):w.heap.size≤Bi));clear HB;revert n0_ n1_ n2_ n3_;intro HB Bd J4 Bj;clear hb hbox hg)|((with_reducible refine gate_dst (N:=4) rfl ?_);refine box_event ?hg (N:=4) ?hd (cs:=#[.slice none 0 0,.slice none 0 0,.slice none 0 0]) (t:=26) ?hr ?_;(case hd=>rfl);(case hg=>rfl);(case hr=>first|(go_simp;done)|(go_simp;rfl));intro Be hg w5 hbox hb;have n0_:=Am (bX Bd.out hb);have n1_:=Am (bP (by repeat (first|(with_reducible first|exact HB.out|apply oA|apply pN|apply o1|refine bS ?_ Bj.out)|exact HB.out)) hb);have n2_:=Am (hbox);have n3_:=Am ((by rw [hg];exact (bZ (by repeat (first|(with_reducible first|exact HB.out|apply oA|apply pN|apply o1|refine bS ?_ Bj.out)|exact HB.out))):w.heap.size≤Be));have n4_:=Am ((by rw [hg];exact (bZ (by repeat (first|(with_reducible first|exact HB.out|apply oA|apply pN|apply o1|refine bS ?_ Bj.out)|exact HB.out))):w.heap.size≤Be));have n5_:=Am ((nL Bd.out hg));have n6_:=Am ((nG Bd.out hg));clear Bd HB;revert n0_ n1_ n2_ n3_ n4_ n5_ n6_;intro Bd HB Bc J5 Bk Bl Bm;clear hb hbox hg))
 (try simp only [Act.put,lA,lZ,lS])
 go_cut [14] (fun v14 wc=>∃ (kq:Nat) (x14_2:Bool),v14=.bool x14_2∧Aside0 (impl_SigsSend.j0 kq a1 x14_2 l0_0 l0_1 l0_2=some (r1,r2,r3,r4))∧Aside0 (kq≤k)∧Aside0 (wc.heap[Bi]?=some (.cells #[(.slice A0_0 l0_0.length c0_0),(.slice A0_1 l0_1.length c0_1),(.slice A0_2 l0_2.length c0_2)] 26 (0,0)))∧Aside0 (wc.heap[Be]?=some (.cells #[(.slice none 0 0),(.slice none 0 0),(.slice none 0 0)] 26 (0,0)))∧Aside0 (Below w.heap.size w wc))
 case first =>
  have H:=HC3.out
  clear HC3
  replace H:=oC H
  obtain ⟨t217,A60,H⟩:=H
  replace H:(if t217=true then ((impl_in.f a1 1 8).bind fun t218=>(impl_SigsSend.j0 k a1 (!t218) l0_0 l0_1 l0_2)) else (impl_SigsSend.j0 k a1 true l0_0 l0_1 l0_2))=some (r1,r2,r3,r4):=H
  have A6:=Am A60
  clear A60
  by_cases c7:t217=true
  rotate_left
  ·replace c7:=Bool.eq_false_iff.mpr c7
   subst c7
   have H1:(impl_SigsSend.j0 k a1 true l0_0 l0_1 l0_2)=some (r1,r2,r3,r4):=by rw [if_neg (show ¬ (false=true) by decide)] at H;exact H
   clear H
   have H:=H1
   clear H1
   have H':=Am H
   clear H
   have J6:=Bl.out
   have J7:=Bm.out
   have BD:=cz0 Bd.out
   have BE:=cz1 Bd.out
   have BF:=cz2 Bd.out
   have BG:=bF Bd.out 0
   have BH:=bF Bd.out 1
   have BI:=bF Bd.out 2
   go_wp2_with (first|((with_reducible refine gate_callee (f:=16) rfl ?_);refine goesL_ (some 8) rfl rfl Try.func16 (by kernel_rfl) rfl #[.agg #[.slice A0_0 l0_0.length c0_0,.slice A0_1 l0_1.length c0_1,.slice A0_2 l0_2.length c0_2]] rfl (by (try simp only [lM,lC,lN]);first|done|rfl|(simp only [lD,lT];rfl)) ?_;(with_reducible refine (impl_SigsOk.calls k _ _ l0_0 _ _ l0_1 _ _ l0_2 false _ ?side1 ?side2 ?side3 ?side4 ?side5 ?side6 A6.out).mono ?_);(case side1=>repeat (first|exact (cB HR0_0.out HB.out)|(with_reducible refine cA ?_ _)|(with_reducible refine cN ?_ _)|(with_reducible refine cD ?_)));(case side2=>exact HC0_0.out);(case side3=>repeat (first|exact (cB HR0_1.out HB.out)|(with_reducible refine cA ?_ _)|(with_reducible refine cN ?_ _)|(with_reducible refine cD ?_)));(case side4=>exact HC0_1.out);(case side5=>repeat (first|exact (cB HR0_2.out HB.out)|(with_reducible refine cA ?_ _)|(with_reducible refine cN ?_ _)|(with_reducible refine cD ?_)));(case side6=>exact HC0_2.out);rintro e w14 ⟨rfl,hb⟩;refine ⟨_,rfl,?_⟩;have n0_:=Am (bX Bd.out hb);have n1_:=Am (bX Bc.out hb);have n2_:=Am (bP (by repeat (first|(with_reducible first|exact HB.out|apply oA|apply pN|apply o1|refine bS ?_ Bj.out|refine bS ?_ Bk.out)|exact HB.out)) hb);clear Bd Bc HB;revert n0_ n1_ n2_;intro Bd Bc HB;(try clear hb);(try clear hb2);(try clear hk);(try clear hi)))
   go_meet
   case rel=>exact ⟨_,(true),(by first|rfl|(simp;done)|(simp [*];done)),H',⟨by first|omega|exact Nat.le_refl _⟩,⟨by (with_reducible repeat (first|refine bN ?_ _|refine bD ?_|refine bA ?_ _));exact Bd.out⟩,⟨by (with_reducible repeat (first|refine bN ?_ _|refine bD ?_|refine bA ?_ _));exact Bc.out⟩,⟨by repeat (first|(with_reducible first|exact HB.out|apply oA|apply pN|apply o1|refine bS ?_ Bj.out|refine bS ?_ Bk.out)|exact HB.out)⟩⟩
  subst c7
  have H1:((impl_in.f a1 1 8).bind fun t218=>(impl_SigsSend.j0 k a1 (!t218) l0_0 l0_1 l0_2))=some (r1,r2,r3,r4):=by rw [if_pos rfl] at H;exact H
  clear H
  have H:=H1
  clear H1
  replace H:=oC H
  obtain ⟨t218,A80,H⟩:=H
  replace H:(impl_SigsSend.j0 k a1 (!t218) l0_0 l0_1 l0_2)=some (r1,r2,r3,r4):=H
  have A8:=Am A80
  clear A80
  have H':=Am H
  clear H
  have MF:=Bl.out
  have MG:=Bm.out
  have Bx:=cz0 Bd.out
  have By:=cz1 Bd.out
  have Bz:=cz2 Bd.out
  have BA:=bF Bd.out 0
  have BB:=bF Bd.out 1
  have BC:=bF Bd.out 2
  go_wp2_with (first|((with_reducible refine gate_callee (f:=16) rfl ?_);refine goesL_ (some 8) rfl rfl Try.func16 (by kernel_rfl) rfl #[.agg #[.slice A0_0 l0_0.length c0_0,.slice A0_1 l0_1.length c0_1,.slice A0_2 l0_2.length c0_2]] rfl (by (try simp only [lM,lC,lN]);first|done|rfl|(simp only [lD,lT];rfl)) ?_;(with_reducible refine (impl_SigsOk.calls k _ _ l0_0 _ _ l0_1 _ _ l0_2 true _ ?side1 ?side2 ?side3 ?side4 ?side5 ?side6 A6.out).mono ?_);(case side1=>repeat (first|exact (cB HR0_0.out HB.out)|(with_reducible refine cA ?_ _)|(with_reducible refine cN ?_ _)|(with_reducible refine cD ?_)));(case side2=>exact HC0_0.out);(case side3=>repeat (first|exact (cB HR0_1.out HB.out)|(with_reducible refine cA ?_ _)|(with_reducible refine cN ?_ _)|(with_reducible refine cD ?_)));(case side4=>exact HC0_1.out);(case side5=>repeat (first|exact (cB HR0_2.out HB.out)|(with_reducible refine cA ?_ _)|(with_reducible refine cN ?_ _)|(with_reducible refine cD ?_)));(case side6=>exact HC0_2.out);rintro e w11 ⟨rfl,hb⟩;refine ⟨_,rfl,?_⟩;have n0_:=Am (bX Bd.out hb);have n1_:=Am (bX Bc.out hb);have n2_:=Am (bP (by repeat (first|(with_reducible first|exact HB.out|apply oA|apply pN|apply o1|refine bS ?_ Bj.out|refine bS ?_ Bk.out)|exact HB.out)) hb);clear Bd Bc HB;revert n0_ n1_ n2_;intro Bd Bc HB;(try clear hb);(try clear hb2);(try clear hk);(try clear hi))|(go_at_call 46;(with_reducible refine (impl_in.calls a1 1 8 t218 _ A8.out).mono ?_);rintro e w' ⟨rfl,⟨nd,rfl⟩⟩))
  go_meet
  case rel=>exact ⟨_,(!t218),(by first|rfl|(simp;done)|(simp [*];done)),H',⟨by first|omega|exact Nat.le_refl _⟩,⟨by (with_reducible repeat (first|refine bN ?_ _|refine bD ?_|refine bA ?_ _));exact Bd.out⟩,⟨by (with_reducible repeat (first|refine bN ?_ _|refine bD ?_|refine bA ?_ _));exact Bc.out⟩,⟨by repeat (first|(with_reducible first|exact HB.out|apply oA|apply pN|apply o1|refine bS ?_ Bj.out|refine bS ?_ Bk.out)|exact HB.out)⟩⟩
 case rest =>
  clear HC3
  try clear c1
  try clear p2
  try clear c3
  try clear c7
  try clear c9
  try clear c12
  try clear Bx
  try clear By
  try clear Bz
  try clear BD
  try clear BE
  try clear BF
  try clear BA
  try clear BB
  try clear BC
  try clear BG
  try clear BH
  try clear BI
  obtain ⟨kq,x14_2,rfl,HA,B3,Bd,Bc,HB⟩:=hcut
  cases kq with
 |zero=>exact absurd HA.out (by simp [impl_SigsSend.j0])
 |succ kj2 =>
   have H:=HA.out
   clear HA
   simp only [impl_SigsSend.j0] at H
   by_cases c15:x14_2=true
   ·subst c15
    have H1:(some (([]:List Bool),([]:List Bool),([]:List Int),false))=some (r1,r2,r3,r4):=by rw [if_pos rfl] at H;exact H
    clear H
    have H:=H1
    clear H1
    simp only [Option.some.injEq,Prod.mk.injEq] at H
    obtain ⟨rfl,rfl,rfl,rfl⟩:=H
    have J8:=Bm.out
    have J9:=Bl.out
    have BL:=cz0 Bc.out
    have BM:=cz1 Bc.out
    have BN:=cz2 Bc.out
    have BO:=bF Bc.out 0
    have BP:=bF Bc.out 1
    have BQ:=bF Bc.out 2
    go_wp2
    refine bodyPost_ret (results_ct rfl _ _ Be 26 #[.slice none 0 0,.slice none 0 0,.slice none 0 0] (0,0) _ rfl (by (with_reducible repeat (first|refine bN ?_ _|refine bD ?_|refine bA ?_ _));refine blk_put (cs:=#[.slice none 0 0,.slice none 0 0,.slice none 0 0]) ?_ 2 _ rfl;(with_reducible repeat (first|refine bN ?_ _|refine bD ?_|refine bA ?_ _));refine blk_put (cs:=#[.slice none 0 0,.slice none 0 0,.slice none 0 0]) ?_ 1 _ rfl;(with_reducible repeat (first|refine bN ?_ _|refine bD ?_|refine bA ?_ _));refine blk_put (cs:=#[.slice none 0 0,.slice none 0 0,.slice none 0 0]) ?_ 0 _ rfl;(with_reducible repeat (first|refine bN ?_ _|refine bD ?_|refine bA ?_ _));exact Bc.out) Try.underlying26 rfl (by kernel_rfl)) rfl ?_
    exact ⟨_,_,_,by first|rfl|(simp [errW_none,errW_some] <;> rfl)|(simp [*,errW_none,errW_some] <;> rfl),by first|exact Kd.R_nil _ _ _ _ _|exact Kd.N_nil _ _ _ _ _|exact Kd.V_nil _ _ _ _ _|exact Kd.Q_nil _ _ _ _ _|exact Kd.S_nil _ _ _ _ _,by first|exact Kd.R_nil _ _ _ _ _|exact Kd.N_nil _ _ _ _ _|exact Kd.V_nil _ _ _ _ _|exact Kd.Q_nil _ _ _ _ _|exact Kd.S_nil _ _ _ _ _,by first|exact Kd.R_nil _ _ _ _ _|exact Kd.N_nil _ _ _ _ _|exact Kd.V_nil _ _ _ _ _|exact Kd.Q_nil _ _ _ _ _|exact Kd.S_nil _ _ _ _ _,by repeat (first|(with_reducible first|exact HB.out|apply oA|apply pN|apply o1|refine bS ?_ Bj.out|refine bS ?_ Bk.out)|exact HB.out)⟩
   replace c15:=Bool.eq_false_iff.mpr c15
   subst c15
   have H1:((impl_Sigs_clone.f l0_0 l0_1 l0_2).bind fun bt219=>(if a1=2 then (impl_SigsSend.j1 kj2 a1 a1 (a1 == 2) l0_0 l0_1 l0_2 bt219.1 bt219.2.1 bt219.2.2) else (impl_SigsSend.j1 kj2 a1 a1 (a1 == 6) l0_0 l0_1 l0_2 bt219.1 bt219.2.1 bt219.2.2)))=some (r1,r2,r3,r4):=by rw [if_neg (show ¬ (false=true) by decide)] at H;exact H
   clear H
   have H:=H1
   clear H1
   replace H:=oC H
   obtain ⟨⟨t219,t222,t225⟩,A180,H⟩:=H
   replace H:(if a1=2 then (impl_SigsSend.j1 kj2 a1 a1 (a1 == 2) l0_0 l0_1 l0_2 t219 t222 t225) else (impl_SigsSend.j1 kj2 a1 a1 (a1 == 6) l0_0 l0_1 l0_2 t219 t222 t225))=some (r1,r2,r3,r4):=H
   have A18:=Am A180
   clear A180
   have HC19:=Am H
   clear H
   have Ma:=Bl.out
   have Mb:=Bm.out
   have BR:=cz0 Bd.out
   have BS:=cz1 Bd.out
   have BT:=cz2 Bd.out
   have BU:=bF Bd.out 0
   have BV:=bF Bd.out 1
   have BW:=bF Bd.out 2
   go_upto_if 19 with (first|((with_reducible refine gate_callee (f:=37) rfl ?_);refine goesL_ (some 17) rfl rfl Try.func37 (by kernel_rfl) rfl #[.agg #[.slice A0_0 l0_0.length c0_0,.slice A0_1 l0_1.length c0_1,.slice A0_2 l0_2.length c0_2]] rfl (by (try simp only [lM,lC,lN]);first|done|rfl|(simp only [lD,lT];rfl)) ?_;(with_reducible refine (impl_Sigs_clone.calls _ _ l0_0 _ _ l0_1 _ _ l0_2 t219 t222 t225 _ ?side1 ?side2 ?side3 ?side4 ?side5 ?side6 A18.out).mono ?_);(case side1=>repeat (first|exact (cB HR0_0.out HB.out)|(with_reducible refine cA ?_ _)|(with_reducible refine cN ?_ _)|(with_reducible refine cD ?_)));(case side2=>exact HC0_0.out);(case side3=>repeat (first|exact (cB HR0_1.out HB.out)|(with_reducible refine cA ?_ _)|(with_reducible refine cN ?_ _)|(with_reducible refine cD ?_)));(case side4=>exact HC0_1.out);(case side5=>repeat (first|exact (cB HR0_2.out HB.out)|(with_reducible refine cA ?_ _)|(with_reducible refine cN ?_ _)|(with_reducible refine cD ?_)));(case side6=>exact HC0_2.out);rintro e w22 ⟨v220,v223,v226,rfl,ho0,ho1,ho2,hb⟩;refine ⟨_,rfl,?_⟩;have n0_:=Am (Kd.R_lower ho0 (bZ (by repeat (first|(with_reducible first|exact HB.out|apply oA|apply pN|apply o1|refine bS ?_ Bj.out|refine bS ?_ Bk.out)|exact HB.out))));have n1_:=Am (Kd.R_lower ho1 (bZ (by repeat (first|(with_reducible first|exact HB.out|apply oA|apply pN|apply o1|refine bS ?_ Bj.out|refine bS ?_ Bk.out)|exact HB.out))));have n2_:=Am (Kd.R_lower ho2 (bZ (by repeat (first|(with_reducible first|exact HB.out|apply oA|apply pN|apply o1|refine bS ?_ Bj.out|refine bS ?_ Bk.out)|exact HB.out))));have n3_:=Am (bX Bd.out hb);have n4_:=Am (bX Bc.out hb);have n5_:=Am (bP (by repeat (first|(with_reducible first|exact HB.out|apply oA|apply pN|apply o1|refine bS ?_ Bj.out|refine bS ?_ Bk.out)|exact HB.out)) hb);clear Bd Bc HB;revert n0_ n1_ n2_ n3_ n4_ n5_;intro Bu Bv Bw Bd Bc HB;(try clear hb);(try clear hb2);(try clear hk);(try clear hi);(try clear ho0);(try clear ho1);(try clear ho2))|((with_reducible refine gate_dst (N:=6) rfl ?_);refine box_event ?hg (N:=6) ?hd (cs:=#[.slice none 0 0,.slice none 0 0,.slice none 0 0]) (t:=26) ?hr ?_;(case hd=>rfl);(case hg=>rfl);(case hr=>first|(go_simp;done)|(go_simp;rfl));intro Bh hg w23 hbox hb;have n0_:=Am (rB (rL Bu.out) hb);have n1_:=Am (rB (rL Bv.out) hb);have n2_:=Am (rB (rL Bw.out) hb);have n3_:=Am (bX Bd.out hb);have n4_:=Am (bX Bc.out hb);have n5_:=Am (bP (by repeat (first|(with_reducible first|exact HB.out|apply oA|apply pN|apply o1|refine bS ?_ Bj.out|refine bS ?_ Bk.out)|exact HB.out)) hb);have n6_:=Am (hbox);have n7_:=Am ((by rw [hg];exact (bZ (by repeat (first|(with_reducible first|exact HB.out|apply oA|apply pN|apply o1|refine bS ?_ Bj.out|refine bS ?_ Bk.out)|exact HB.out))):w.heap.size≤Bh));have n8_:=Am ((by rw [hg];exact (bZ (by repeat (first|(with_reducible first|exact HB.out|apply oA|apply pN|apply o1|refine bS ?_ Bj.out|refine bS ?_ Bk.out)|exact HB.out))):w.heap.size≤Bh));have n9_:=Am ((nL Bd.out hg));have n10_:=Am ((nG Bd.out hg));have n11_:=Am ((nL Bc.out hg));have n12_:=Am ((nG Bc.out hg));clear Bu Bv Bw Bd Bc HB;revert n0_ n1_ n2_ n3_ n4_ n5_ n6_ n7_ n8_ n9_ n10_ n11_ n12_;intro Bu Bv Bw Bd Bc HB Bb Mc Bp Bn Bq Bo Br;clear hb hbox hg;obtain ⟨Ao24,co24,eo24⟩:=Kd.R_slice Bu.out;subst eo24;have Md:=Bq.out;have Me:=Bn.out;have Mf:=Br.out;have Mg:=Bo.out;have BX:=cz0 Bb.out;have BY:=cz1 Bb.out;have BZ:=cz2 Bb.out;have B0:=bF Bb.out 0;have B1:=bF Bb.out 1;have B2:=bF Bb.out 2;obtain ⟨Ao28,co28,eo28⟩:=Kd.R_slice Bv.out;subst eo28;obtain ⟨Ao29,co29,eo29⟩:=Kd.R_slice Bw.out;subst eo29))
   (try simp only [Act.put,lA,lZ,lS])
   go_cut [19] (fun v19 wc=>∃ (kq:Nat) (x19_18:Bool),v19=.bool x19_18∧Aside0 (impl_SigsSend.j1 kq a1 a1 x19_18 l0_0 l0_1 l0_2 t219 t222 t225=some (r1,r2,r3,r4))∧Aside0 (kq≤kj2)∧Aside0 (Kd.R Kd.bool 4 wc w.heap.size (fun k_=>some k_≠((.slice Ao28 t222.length co28):Value).ownBlock) (.slice Ao24 t219.length co24) t219)∧Aside0 (Kd.R Kd.bool 4 wc w.heap.size (fun k_=>some k_≠((.slice Ao24 t219.length co24):Value).ownBlock) (.slice Ao28 t222.length co28) t222)∧Aside0 (Kd.R (Kd.int .i64) 3 wc w.heap.size (fun _=>True) (.slice Ao29 t225.length co29) t225)∧Aside0 (wc.heap[Bi]?=some (.cells #[(.slice A0_0 l0_0.length c0_0),(.slice A0_1 l0_1.length c0_1),(.slice A0_2 l0_2.length c0_2)] 26 (0,0)))∧Aside0 (wc.heap[Be]?=some (.cells #[(.slice none 0 0),(.slice none 0 0),(.slice none 0 0)] 26 (0,0)))∧Aside0 (wc.heap[Bh]?=some (.cells #[(.slice Ao24 t219.length co24),(.slice Ao28 t222.length co28),(.slice Ao29 t225.length co29)] 26 (0,0)))∧Aside0 (Below w.heap.size w wc))
   case first =>
    have H:=HC19.out
    clear HC19
    by_cases c30:a1=2
    rotate_left
    ·rw [if_neg c30] at H
     have c30b0:(a1 == 2)=false:=beq_eq_false_iff_ne.mpr c30
     have c30b1:(a1 != 2)=true:=bne_iff_ne.mpr c30
     (first|rw [c30b0]|(simp only [i64_w,i32_w];rw [c30b0])|skip)
     have H':=Am H
     clear H
     go_wp2
     go_meet
     case rel=>exact ⟨_,((a1 == 6)),(by first|rfl|(simp;done)|(simp [*];done)),H',⟨by have:=B3.out;first|omega|exact Nat.le_refl _⟩,⟨by (with_reducible repeat (first|apply rA|apply rN|apply rD));exact rM (rF (p:=⟨Bh,2,none⟩) (rF (p:=⟨Bh,1,none⟩) (rF (p:=⟨Bh,0,none⟩) (rT Bu.out Bb.out (by decide)) (fun _ hk=>hk.2) (.slice Ao24 t219.length co24)) (fun _ hk=>hk.2) (.slice Ao28 t222.length co28)) (fun _ hk=>hk.2) (.slice Ao29 t225.length co29)) (fun _ hk=>hk.1)⟩,⟨by (with_reducible repeat (first|apply rA|apply rN|apply rD));exact rM (rF (p:=⟨Bh,2,none⟩) (rF (p:=⟨Bh,1,none⟩) (rF (p:=⟨Bh,0,none⟩) (rT Bv.out Bb.out (by decide)) (fun _ hk=>hk.2) (.slice Ao24 t219.length co24)) (fun _ hk=>hk.2) (.slice Ao28 t222.length co28)) (fun _ hk=>hk.2) (.slice Ao29 t225.length co29)) (fun _ hk=>hk.1)⟩,⟨by (with_reducible repeat (first|apply rA|apply rN|apply rD));exact rM (rF (p:=⟨Bh,2,none⟩) (rF (p:=⟨Bh,1,none⟩) (rF (p:=⟨Bh,0,none⟩) (rT Bw.out Bb.out (by decide)) (fun _ hk=>hk.2) (.slice Ao24 t219.length co24)) (fun _ hk=>hk.2) (.slice Ao28 t222.length co28)) (fun _ hk=>hk.2) (.slice Ao29 t225.length co29)) (fun _ hk=>trivial)⟩,⟨by (with_reducible repeat (first|refine bN ?_ _|refine bD ?_|refine bA ?_ _|refine blk_far ?_ Bn.out _));exact Bd.out⟩,⟨by (with_reducible repeat (first|refine bN ?_ _|refine bD ?_|refine bA ?_ _|refine blk_far ?_ Bo.out _));exact Bc.out⟩,⟨by (with_reducible repeat (first|refine bN ?_ _|refine bD ?_|refine bA ?_ _));refine blk_put (cs:=#[.slice Ao24 t219.length co24,.slice Ao28 t222.length co28,.slice none 0 0]) ?_ 2 _ rfl;(with_reducible repeat (first|refine bN ?_ _|refine bD ?_|refine bA ?_ _));refine blk_put (cs:=#[.slice Ao24 t219.length co24,.slice none 0 0,.slice none 0 0]) ?_ 1 _ rfl;(with_reducible repeat (first|refine bN ?_ _|refine bD ?_|refine bA ?_ _));refine blk_put (cs:=#[.slice none 0 0,.slice none 0 0,.slice none 0 0]) ?_ 0 _ rfl;(with_reducible repeat (first|refine bN ?_ _|refine bD ?_|refine bA ?_ _));exact Bb.out⟩,⟨by repeat (first|(with_reducible first|exact HB.out|apply oA|apply pN|apply o1|refine bS ?_ Bj.out|refine bS ?_ Bk.out|refine bS ?_ Bp.out)|exact HB.out)⟩⟩
    rw [if_pos c30] at H
    have c30b0:(a1 == 2)=true:=beq_iff_eq.mpr c30
    have c30b1:(a1 != 2)=false:=bne_eq_false_iff_eq.mpr c30
    clear c30
    (first|rw [c30b0]|(simp only [i64_w,i32_w];rw [c30b0])|skip)
    have H':=Am H
    clear H
    go_wp2
    go_meet
    case rel=>exact ⟨_,((a1 == 2)),(by first|rfl|(simp;done)|(simp [*];done)),H',⟨by have:=B3.out;first|omega|exact Nat.le_refl _⟩,⟨by (with_reducible repeat (first|apply rA|apply rN|apply rD));exact rM (rF (p:=⟨Bh,2,none⟩) (rF (p:=⟨Bh,1,none⟩) (rF (p:=⟨Bh,0,none⟩) (rT Bu.out Bb.out (by decide)) (fun _ hk=>hk.2) (.slice Ao24 t219.length co24)) (fun _ hk=>hk.2) (.slice Ao28 t222.length co28)) (fun _ hk=>hk.2) (.slice Ao29 t225.length co29)) (fun _ hk=>hk.1)⟩,⟨by (with_reducible repeat (first|apply rA|apply rN|apply rD));exact rM (rF (p:=⟨Bh,2,none⟩) (rF (p:=⟨Bh,1,none⟩) (rF (p:=⟨Bh,0,none⟩) (rT Bv.out Bb.out (by decide)) (fun _ hk=>hk.2) (.slice Ao24 t219.length co24)) (fun _ hk=>hk.2) (.slice Ao28 t222.length co28)) (fun _ hk=>hk.2) (.slice Ao29 t225.length co29)) (fun _ hk=>hk.1)⟩,⟨by (with_reducible repeat (first|apply rA|apply rN|apply rD));exact rM (rF (p:=⟨Bh,2,none⟩) (rF (p:=⟨Bh,1,none⟩) (rF (p:=⟨Bh,0,none⟩) (rT Bw.out Bb.out (by decide)) (fun _ hk=>hk.2) (.slice Ao24 t219.length co24)) (fun _ hk=>hk.2) (.slice Ao28 t222.length co28)) (fun _ hk=>hk.2) (.slice Ao29 t225.length co29)) (fun _ hk=>trivial)⟩,⟨by (with_reducible repeat (first|refine bN ?_ _|refine bD ?_|refine bA ?_ _|refine blk_far ?_ Bn.out _));exact Bd.out⟩,⟨by (with_reducible repeat (first|refine bN ?_ _|refine bD ?_|refine bA ?_ _|refine blk_far ?_ Bo.out _));exact Bc.out⟩,⟨by (with_reducible repeat (first|refine bN ?_ _|refine bD ?_|refine bA ?_ _));refine blk_put (cs:=#[.slice Ao24 t219.length co24,.slice Ao28 t222.length co28,.slice none 0 0]) ?_ 2 _ rfl;(with_reducible repeat (first|refine bN ?_ _|refine bD ?_|refine bA ?_ _));refine blk_put (cs:=#[.slice Ao24 t219.length co24,.slice none 0 0,.slice none 0 0]) ?_ 1 _ rfl;(with_reducible repeat (first|refine bN ?_ _|refine bD ?_|refine bA ?_ _));refine blk_put (cs:=#[.slice none 0 0,.slice none 0 0,.slice none 0 0]) ?_ 0 _ rfl;(with_reducible repeat (first|refine bN ?_ _|refine bD ?_|refine bA ?_ _));exact Bb.out⟩,⟨by repeat (first|(with_reducible first|exact HB.out|apply oA|apply pN|apply o1|refine bS ?_ Bj.out|refine bS ?_ Bk.out|refine bS ?_ Bp.out)|exact HB.out)⟩⟩
   case rest =>
    clear HC19
    try clear c1
    try clear c2
    try clear p2
    try clear c3
    try clear c7
    try clear c9
    try clear c12
    try clear c15
    try clear c16
    try clear c20
    try clear c25
    try clear c26
    try clear c30
    try clear c30b0
    try clear c30b1
    try clear Bx
    try clear By
    try clear Bz
    try clear BD
    try clear BE
    try clear BF
    try clear BL
    try clear BM
    try clear BN
    try clear BR
    try clear BS
    try clear BT
    try clear BX
    try clear BY
    try clear BZ
    try clear BA
    try clear BB
    try clear BC
    try clear BG
    try clear BH
    try clear BI
    try clear BO
    try clear BP
    try clear BQ
    try clear BU
    try clear BV
    try clear BW
    try clear B0
    try clear B1
    try clear B2
    try clear p2
    obtain ⟨kq,x19_18,rfl,HA,MH,Ba,Bf,Bg,Bd,Bc,Bb,HB⟩:=hcut
    cases kq with
   |zero=>exact absurd HA.out (by simp [impl_SigsSend.j1])
   |succ kj18 =>
     have H:=HA.out
     clear HA
     simp only [impl_SigsSend.j1] at H
     by_cases c31:x19_18=true
     ·subst c31
      have H1:(if 2<(t219.length:Int) then ((some (t219.set (2:Int).toNat false:List Bool)).bind fun y229=>(if 0≤(wrap64 (a1 - 1)) then (if (wrap64 (a1 - 1))<(l0_1.length:Int) then (if rdOf false l0_1 (wrap64 (a1 - 1))=true then (if (wrap64 (a1 - 1))<(t219.length:Int) then (some ((y229.set ((wrap64 (a1 - 1)):Int).toNat true),t222,t225,true)) else (none)) else ((impl_Sigs_does.f kj18 l0_0 l0_1 l0_2 a1).bind fun t232=>(if t232=1 then (some (y229,t222,t225,true)) else (if (wrap64 (a1 - 1))<(t219.length:Int) then (some ((y229.set ((wrap64 (a1 - 1)):Int).toNat true),t222,t225,true)) else (none))))) else (none)) else (none))) else (none))=some (r1,r2,r3,r4):=by rw [if_pos rfl] at H;exact H
      clear H
      have H:=H1
      clear H1
      by_cases c32:2<(t219.length:Int)
      rotate_left
      ·rw [if_neg c32] at H
       exact absurd H (by simp)
      rw [if_pos c32] at H
      have c32b0:decide (2<(t219.length:Int))=true:=decide_eq_true c32
      have c32b1:decide (2<t219.length)=true:=decide_eq_true (by omega)
      clear c32
      obtain ⟨y229,hy229⟩:∃ y_:List Bool,y_=(t219.set (2:Int).toNat false):=⟨_,rfl⟩
      replace H:(if 0≤(wrap64 (a1 - 1)) then (if (wrap64 (a1 - 1))<(l0_1.length:Int) then (if rdOf false l0_1 (wrap64 (a1 - 1))=true then (if (wrap64 (a1 - 1))<(t219.length:Int) then (some ((y229.set ((wrap64 (a1 - 1)):Int).toNat true),t222,t225,true)) else (none)) else ((impl_Sigs_does.f kj18 l0_0 l0_1 l0_2 a1).bind fun t232=>(if t232=1 then (some (y229,t222,t225,true)) else (if (wrap64 (a1 - 1))<(t219.length:Int) then (some ((y229.set ((wrap64 (a1 - 1)):Int).toNat true),t222,t225,true)) else (none))))) else (none)) else (none))=some (r1,r2,r3,r4):=by first|(rw [hy229];with_reducible exact H)|(have H2_:=(Option.bind_some _ _).symm.trans H;rw [hy229];with_reducible exact H2_)|(have H2_:=(Option.bind_some _ _).symm.trans H;with_reducible exact H2_)|with_reducible exact H|(rw [hy229];exact H)|exact H
      have Ny229:=Am hy229
      clear hy229
      obtain ⟨ji34,hji34⟩:∃ j_:Int,(wrap64 (a1 - 1))=j_:=⟨_,rfl⟩
      replace H:(if 0≤(ji34) then (if (ji34)<(l0_1.length:Int) then (if rdOf false l0_1 (ji34)=true then (if (ji34)<(t219.length:Int) then (some ((y229.set ((ji34):Int).toNat true),t222,t225,true)) else (none)) else ((impl_Sigs_does.f kj18 l0_0 l0_1 l0_2 a1).bind fun t232=>(if t232=1 then (some (y229,t222,t225,true)) else (if (ji34)<(t219.length:Int) then (some ((y229.set ((ji34):Int).toNat true),t222,t225,true)) else (none))))) else (none)) else (none))=some (r1,r2,r3,r4):=by first|(rw [hji34] at H;exact H)|(simp only [hji34] at H ⊢;exact H)
      have hji34w:(IntKind.i64.wrap (a1 - 1))=ji34:=(i64_w _).trans hji34
      by_cases c35:0≤(ji34)
      rotate_left
      ·rw [if_neg c35] at H
       exact absurd H (by simp)
      rw [if_pos c35] at H
      have c35b0:decide (0≤(ji34))=true:=decide_eq_true c35
      clear c35
      by_cases c36:(ji34)<(l0_1.length:Int)
      rotate_left
      ·rw [if_neg c36] at H
       exact absurd H (by simp)
      rw [if_pos c36] at H
      have c36b0:decide ((ji34)<(l0_1.length:Int))=true:=decide_eq_true c36
      clear c36
      obtain ⟨bq37,hbq37⟩:∃ b_:Bool,b_=(rdOf false l0_1 (ji34)):=⟨_,rfl⟩
      replace H:(if bq37=true then (if (ji34)<(t219.length:Int) then (some ((y229.set ((ji34):Int).toNat true),t222,t225,true)) else (none)) else ((impl_Sigs_does.f kj18 l0_0 l0_1 l0_2 a1).bind fun t232=>(if t232=1 then (some (y229,t222,t225,true)) else (if (ji34)<(t219.length:Int) then (some ((y229.set ((ji34):Int).toNat true),t222,t225,true)) else (none)))))=some (r1,r2,r3,r4):=by rw [← hbq37] at H;exact H
      have Nbq37:=Am hbq37
      clear hbq37
      by_cases c38:bq37=true
      ·subst c38
       have H1:(if (ji34)<(t219.length:Int) then (some ((y229.set ((ji34):Int).toNat true),t222,t225,true)) else (none))=some (r1,r2,r3,r4):=by rw [if_pos rfl] at H;exact H
       clear H
       have H:=H1
       clear H1
       by_cases c39:(ji34)<(t219.length:Int)
       rotate_left
       ·rw [if_neg c39] at H
        exact absurd H (by simp)
       rw [if_pos c39] at H
       have c39b0:decide ((ji34)<(t219.length:Int))=true:=decide_eq_true c39
       clear c39
       obtain ⟨y231,hy231⟩:∃ y_:List Bool,y_=(y229.set ((ji34):Int).toNat true):=⟨_,rfl⟩
       replace H:(some (y231,t222,t225,true))=some (r1,r2,r3,r4):=by first|(rw [hy231];with_reducible exact H)|(have H2_:=(Option.bind_some _ _).symm.trans H;rw [hy231];with_reducible exact H2_)|(have H2_:=(Option.bind_some _ _).symm.trans H;with_reducible exact H2_)|with_reducible exact H|(rw [hy231];exact H)|exact H
       have Ny231:=Am hy231
       clear hy231
       simp only [Option.some.injEq,Prod.mk.injEq] at H
       obtain ⟨rfl,rfl,rfl,rfl⟩:=H
       have Mh:=Bq.out
       have Mi:=Bn.out
       have Mj:=Br.out
       have Mk:=Bo.out
       have F7:=cz0 Bb.out
       have F8:=cz1 Bb.out
       have F9:=cz2 Bb.out
       have Ga:=bF Bb.out 0
       have Gb:=bF Bb.out 1
       have Gc:=bF Bb.out 2
       have p33:0≤(2:Int):=(by omega)
       have q33:(2:Int)<((t219.length:Int):Int):=of_decide_eq_true (by first|(with_reducible assumption)|assumption)
       have qi33:(2<t219.length)=True:=eq_true (by omega)
       obtain ⟨go33,co33,eo33,Bs,gl33,cl33,HG33⟩:=Kd.R_form Ba.out (by omega)
       (first|cases eo33|(injection eo33 with ea_ en_ ec_;(first|subst ea_|(injection ea_ with ea_;subst ea_));subst ec_;clear en_))
       have GB33:=Am Bs
       have GG33:=Am HG33
       clear Bs gl33 HG33
       obtain ⟨hx33_0,hf33_0⟩:=Kd.R_celln false Ba.out (2:Int) p33 q33
       (try rw [show ((2:Int)).toNat=2 from rfl] at hx33_0)
       (try simp only [Nat.reduceMul,Nat.zero_mul,Nat.zero_add,Nat.reduceAdd] at hx33_0)
       (try rw [show ((2:Int)).toNat=2 from rfl] at hf33_0)
       (try simp only [Nat.reduceMul,Nat.zero_mul,Nat.zero_add,Nat.reduceAdd] at hf33_0)
       replace p33:=eq_true p33
       replace q33:=eq_true q33
       have HP44:=Kd.R_putg Ba.out (2:Int) false
       go_wp2_with (first|((with_reducible refine gate_store (t:=4) (p:=24) rfl ?_);refine store_event (t:=4) (p:=24) (v:=?vo_w45) (w1:=(wc.setCell ⟨go33,(2:Int).toNat,none⟩ (.bool false))) ?hg ?ho ?hn ?hr ?_;(case ho=>rfl);(case hg=>rfl);(case hn=>rfl);(case hr=>first|(go_simp;done)|(go_simp;rfl));intro w45 hw;have hg:wc.grownBy w45 (some go33):=(by rw [hw];exact HP44.2);have hp_:Kd.R Kd.bool 4 w45 w.heap.size (fun k_=>some k_≠(.slice Ao28 t222.length co28:Value).ownBlock) (.slice (some ⟨go33,0,none⟩) t219.length co24) y229:=(by rw [hw,Ny229.out];exact HP44.1);clear HP44;have n0_:=Am (hp_);have n1_:=Am (Kd.R_after (v:=(.slice (some ⟨go33,0,none⟩) t219.length co24)) (v1:=(.slice (some ⟨go33,0,none⟩) t219.length co24)) (ok:=(fun _=>True)) (by (with_reducible repeat (first|apply rA|apply rN|apply rD));exact rM Bf.out (fun _ hk=>⟨trivial,hk⟩)) hg (.inl rfl));have n2_:=Am (Kd.R_over' (v:=(.slice (some ⟨go33,0,none⟩) t219.length co24)) (rL Bg.out) (Kd.R_typed Ba.out) (by decide) hg);have n3_:=Am (blk_grown (g:=Bi) (o:=.cells #[.slice A0_0 l0_0.length c0_0,.slice A0_1 l0_1.length c0_1,.slice A0_2 l0_2.length c0_2] 26 (0,0)) (bL Bd.out) hg (Kd.R_ne Ba.out Bd.out (by decide)));have n4_:=Am (blk_grown (g:=Be) (o:=.cells #[.slice none 0 0,.slice none 0 0,.slice none 0 0] 26 (0,0)) (bL Bc.out) hg (Kd.R_ne Ba.out Bc.out (by decide)));have n5_:=Am (blk_grown (g:=Bh) (o:=.cells #[.slice (some ⟨go33,0,none⟩) t219.length co24,.slice Ao28 t222.length co28,.slice Ao29 t225.length co29] 26 (0,0)) (bL Bb.out) hg (Kd.R_ne Ba.out Bb.out (by decide)));have n6_:=Am ((by rw [hw];exact bS (HB.out) GB33.out:Below w.heap.size w w45));clear Ba Bf Bg Bd Bc Bb HB;revert n0_ n1_ n2_ n3_ n4_ n5_ n6_;intro Ba Bf Bg Bd Bc Bb HB;clear hg hw hp_;have Ml:=Bl.out;have Mm:=Bm.out;have Gd:=cz0 Bd.out;have Ge:=cz1 Bd.out;have Gf:=cz2 Bd.out;have Gg:=bF Bd.out 0;have Gh:=bF Bd.out 1;have Gi:=bF Bd.out 2;have p230:0≤((ji34):Int):=of_decide_eq_true (by first|(with_reducible assumption)|assumption);have q230:(ji34)<(l0_1.length:Int):=of_decide_eq_true (by first|(with_reducible assumption)|assumption);obtain ⟨ad230,e230,hx230_0⟩:=Kd.at_bool HR0_1.out (ji34) p230 q230;(try rw [← Nbq37.out] at hx230_0);cases e230;replace hx230_0:=(HB.out.cell (World.block_lt_of_cell? w _ hx230_0)).trans hx230_0;replace p230:=eq_true p230;replace q230:=eq_true q230;have Gj:=cz0 Bb.out;have Gk:=cz1 Bb.out;have Gl:=cz2 Bb.out;have Gm:=bF Bb.out 0;have Gn:=bF Bb.out 1;have Gp:=bF Bb.out 2;have p40:0≤((ji34):Int):=of_decide_eq_true (by first|(with_reducible assumption)|assumption);have q40:((ji34):Int)<((t219.length:Int):Int):=of_decide_eq_true (by first|(with_reducible assumption)|assumption);obtain ⟨hx40_0,hf40_0⟩:=Kd.R_celln false Ba.out ((ji34):Int) p40 q40;replace p40:=eq_true p40;replace q40:=eq_true q40;obtain ⟨hy49_,hz49_⟩:=Kd.R_celln false Ba.out ((ji34):Int) (of_decide_eq_true (by first|(with_reducible assumption)|assumption)) (of_decide_eq_true (by first|(with_reducible assumption)|assumption));have HP49:=Kd.R_putg Ba.out ((ji34):Int) true)|((with_reducible refine gate_store (t:=4) (p:=49) rfl ?_);refine store_event (t:=4) (p:=49) (v:=?vo_w50) (w1:=(w45.setCell ⟨go33,((ji34):Int).toNat,none⟩ (.bool true))) ?hg ?ho ?hn ?hr ?_;(case ho=>rfl);(case hg=>rfl);(case hn=>rfl);(case hr=>first|(go_simp;done)|(go_simp;rfl));intro w50 hw;have hg:w45.grownBy w50 (some go33):=(by rw [hw];exact HP49.2);have hp_:Kd.R Kd.bool 4 w50 w.heap.size (fun k_=>some k_≠(.slice Ao28 t222.length co28:Value).ownBlock) (.slice (some ⟨go33,0,none⟩) t219.length co24) y231:=(by rw [hw,Ny231.out];exact HP49.1);clear HP49;have n0_:=Am (hp_);have n1_:=Am (Kd.R_after (v:=(.slice (some ⟨go33,0,none⟩) t219.length co24)) (v1:=(.slice (some ⟨go33,0,none⟩) t219.length co24)) (ok:=(fun _=>True)) (rL Bf.out) hg (.inl rfl));have n2_:=Am (Kd.R_over' (v:=(.slice (some ⟨go33,0,none⟩) t219.length co24)) (rL Bg.out) (Kd.R_typed Ba.out) (by decide) hg);have n3_:=Am (blk_grown (g:=Bi) (o:=.cells #[.slice A0_0 l0_0.length c0_0,.slice (some ad230) l0_1.length c0_1,.slice A0_2 l0_2.length c0_2] 26 (0,0)) (bL Bd.out) hg (Kd.R_ne Ba.out Bd.out (by decide)));have n4_:=Am (blk_grown (g:=Be) (o:=.cells #[.slice none 0 0,.slice none 0 0,.slice none 0 0] 26 (0,0)) (bL Bc.out) hg (Kd.R_ne Ba.out Bc.out (by decide)));have n5_:=Am (blk_grown (g:=Bh) (o:=.cells #[.slice (some ⟨go33,0,none⟩) t219.length co24,.slice Ao28 t222.length co28,.slice Ao29 t225.length co29] 26 (0,0)) (bL Bb.out) hg (Kd.R_ne Ba.out Bb.out (by decide)));have n6_:=Am ((by rw [hw];exact bS (HB.out) GB33.out:Below w.heap.size w w50));clear Ba Bf Bg Bd Bc Bb HB;revert n0_ n1_ n2_ n3_ n4_ n5_ n6_;intro Ba Bf Bg Bd Bc Bb HB;clear hg hw hp_;have Gq:=cz0 Bb.out;have Gr:=cz1 Bb.out;have Gs:=cz2 Bb.out;have Gt:=bF Bb.out 0;have Gu:=bF Bb.out 1;have Gv:=bF Bb.out 2;have Gw:=cz0 Bc.out;have Gx:=cz1 Bc.out;have Gy:=cz2 Bc.out;have Gz:=bF Bc.out 0;have GA:=bF Bc.out 1;have GB:=bF Bc.out 2))
       refine bodyPost_ret (results_ct rfl _ _ Be 26 #[.slice (some ⟨go33,0,none⟩) t219.length co24,.slice Ao28 t222.length co28,.slice Ao29 t225.length co29] (0,0) _ rfl (by (with_reducible repeat (first|refine bN ?_ _|refine bD ?_|refine bA ?_ _));refine blk_put (cs:=#[.slice (some ⟨go33,0,none⟩) t219.length co24,.slice Ao28 t222.length co28,.slice none 0 0]) ?_ 2 _ rfl;(with_reducible repeat (first|refine bN ?_ _|refine bD ?_|refine bA ?_ _));refine blk_put (cs:=#[.slice (some ⟨go33,0,none⟩) t219.length co24,.slice none 0 0,.slice none 0 0]) ?_ 1 _ rfl;(with_reducible repeat (first|refine bN ?_ _|refine bD ?_|refine bA ?_ _));refine blk_put (cs:=#[.slice none 0 0,.slice none 0 0,.slice none 0 0]) ?_ 0 _ rfl;(with_reducible repeat (first|refine bN ?_ _|refine bD ?_|refine bA ?_ _));exact Bc.out) Try.underlying26 rfl (by kernel_rfl)) rfl ?_
       exact ⟨_,_,_,by first|rfl|(simp [errW_none,errW_some] <;> rfl)|(simp only [← hji34];first|rfl|(simp [errW_none,errW_some] <;> rfl))|(simp [*,errW_none,errW_some] <;> rfl),by (with_reducible repeat (first|apply rA|apply rN|apply rD));exact rM (rF (p:=⟨Be,2,none⟩) (rF (p:=⟨Be,1,none⟩) (rF (p:=⟨Be,0,none⟩) (rT Ba.out Bc.out (by decide)) (fun _ hk=>hk.2) (.slice (some ⟨go33,0,none⟩) t219.length co24)) (fun _ hk=>hk.2) (.slice Ao28 t222.length co28)) (fun _ hk=>hk.2) (.slice Ao29 t225.length co29)) (fun _ hk=>hk.1),by (with_reducible repeat (first|apply rA|apply rN|apply rD));exact rM (rF (p:=⟨Be,2,none⟩) (rF (p:=⟨Be,1,none⟩) (rF (p:=⟨Be,0,none⟩) (rT Bf.out Bc.out (by decide)) (fun _ hk=>hk.2) (.slice (some ⟨go33,0,none⟩) t219.length co24)) (fun _ hk=>hk.2) (.slice Ao28 t222.length co28)) (fun _ hk=>hk.2) (.slice Ao29 t225.length co29)) (fun _ hk=>hk.1.2),by (with_reducible repeat (first|apply rA|apply rN|apply rD));exact rM (rF (p:=⟨Be,2,none⟩) (rF (p:=⟨Be,1,none⟩) (rF (p:=⟨Be,0,none⟩) (rT Bg.out Bc.out (by decide)) (fun _ hk=>hk.2) (.slice (some ⟨go33,0,none⟩) t219.length co24)) (fun _ hk=>hk.2) (.slice Ao28 t222.length co28)) (fun _ hk=>hk.2) (.slice Ao29 t225.length co29)) (fun _ hk=>trivial),by repeat (first|(with_reducible first|exact HB.out|apply oA|apply pN|apply o1|refine bS ?_ Bj.out|refine bS ?_ Bk.out|refine bS ?_ Bp.out)|exact HB.out)⟩
      replace c38:=Bool.eq_false_iff.mpr c38
      subst c38
      have H1:((impl_Sigs_does.f kj18 l0_0 l0_1 l0_2 a1).bind fun t232=>(if t232=1 then (some (y229,t222,t225,true)) else (if (ji34)<(t219.length:Int) then (some ((y229.set ((ji34):Int).toNat true),t222,t225,true)) else (none))))=some (r1,r2,r3,r4):=by rw [if_neg (show ¬ (false=true) by decide)] at H;exact H
      clear H
      have H:=H1
      clear H1
      replace H:=oC H
      obtain ⟨t232,A530,H⟩:=H
      replace H:(if t232=1 then (some (y229,t222,t225,true)) else (if (ji34)<(t219.length:Int) then (some ((y229.set ((ji34):Int).toNat true),t222,t225,true)) else (none)))=some (r1,r2,r3,r4):=H
      have A53:=Am A530
      clear A530
      by_cases c54:t232=1
      ·rw [if_pos c54] at H
       have c54b0:(t232 == 1)=true:=beq_iff_eq.mpr c54
       have c54b1:(t232 != 1)=false:=bne_eq_false_iff_eq.mpr c54
       clear c54
       simp only [Option.some.injEq,Prod.mk.injEq] at H
       obtain ⟨rfl,rfl,rfl,rfl⟩:=H
       have Mn:=Bq.out
       have Mo:=Bn.out
       have Mp:=Br.out
       have Mq:=Bo.out
       have GC:=cz0 Bb.out
       have GD:=cz1 Bb.out
       have GE:=cz2 Bb.out
       have GF:=bF Bb.out 0
       have GG:=bF Bb.out 1
       have GH:=bF Bb.out 2
       have p33:0≤(2:Int):=(by omega)
       have q33:(2:Int)<((t219.length:Int):Int):=of_decide_eq_true (by first|(with_reducible assumption)|assumption)
       have qi33:(2<t219.length)=True:=eq_true (by omega)
       obtain ⟨go33,co33,eo33,Bs,gl33,cl33,HG33⟩:=Kd.R_form Ba.out (by omega)
       (first|cases eo33|(injection eo33 with ea_ en_ ec_;(first|subst ea_|(injection ea_ with ea_;subst ea_));subst ec_;clear en_))
       have GB33:=Am Bs
       have GG33:=Am HG33
       clear Bs gl33 HG33
       obtain ⟨hx33_0,hf33_0⟩:=Kd.R_celln false Ba.out (2:Int) p33 q33
       (try rw [show ((2:Int)).toNat=2 from rfl] at hx33_0)
       (try simp only [Nat.reduceMul,Nat.zero_mul,Nat.zero_add,Nat.reduceAdd] at hx33_0)
       (try rw [show ((2:Int)).toNat=2 from rfl] at hf33_0)
       (try simp only [Nat.reduceMul,Nat.zero_mul,Nat.zero_add,Nat.reduceAdd] at hf33_0)
       replace p33:=eq_true p33
       replace q33:=eq_true q33
       have HP58:=Kd.R_putg Ba.out (2:Int) false
       go_wp2_with (first|((with_reducible refine gate_store (t:=4) (p:=24) rfl ?_);refine store_event (t:=4) (p:=24) (v:=?vo_w59) (w1:=(wc.setCell ⟨go33,(2:Int).toNat,none⟩ (.bool false))) ?hg ?ho ?hn ?hr ?_;(case ho=>rfl);(case hg=>rfl);(case hn=>rfl);(case hr=>first|(go_simp;done)|(go_simp;rfl));intro w59 hw;have hg:wc.grownBy w59 (some go33):=(by rw [hw];exact HP58.2);have hp_:Kd.R Kd.bool 4 w59 w.heap.size (fun k_=>some k_≠(.slice Ao28 t222.length co28:Value).ownBlock) (.slice (some ⟨go33,0,none⟩) t219.length co24) y229:=(by rw [hw,Ny229.out];exact HP58.1);clear HP58;have n0_:=Am (hp_);have n1_:=Am (Kd.R_after (v:=(.slice (some ⟨go33,0,none⟩) t219.length co24)) (v1:=(.slice (some ⟨go33,0,none⟩) t219.length co24)) (ok:=(fun _=>True)) (by (with_reducible repeat (first|apply rA|apply rN|apply rD));exact rM Bf.out (fun _ hk=>⟨trivial,hk⟩)) hg (.inl rfl));have n2_:=Am (Kd.R_over' (v:=(.slice (some ⟨go33,0,none⟩) t219.length co24)) (rL Bg.out) (Kd.R_typed Ba.out) (by decide) hg);have n3_:=Am (blk_grown (g:=Bi) (o:=.cells #[.slice A0_0 l0_0.length c0_0,.slice A0_1 l0_1.length c0_1,.slice A0_2 l0_2.length c0_2] 26 (0,0)) (bL Bd.out) hg (Kd.R_ne Ba.out Bd.out (by decide)));have n4_:=Am (blk_grown (g:=Be) (o:=.cells #[.slice none 0 0,.slice none 0 0,.slice none 0 0] 26 (0,0)) (bL Bc.out) hg (Kd.R_ne Ba.out Bc.out (by decide)));have n5_:=Am (blk_grown (g:=Bh) (o:=.cells #[.slice (some ⟨go33,0,none⟩) t219.length co24,.slice Ao28 t222.length co28,.slice Ao29 t225.length co29] 26 (0,0)) (bL Bb.out) hg (Kd.R_ne Ba.out Bb.out (by decide)));have n6_:=Am ((by rw [hw];exact bS (HB.out) GB33.out:Below w.heap.size w w59));clear Ba Bf Bg Bd Bc Bb HB;revert n0_ n1_ n2_ n3_ n4_ n5_ n6_;intro Ba Bf Bg Bd Bc Bb HB;clear hg hw hp_;have Mr:=Bl.out;have Ms:=Bm.out;have GI:=cz0 Bd.out;have GJ:=cz1 Bd.out;have GK:=cz2 Bd.out;have GL:=bF Bd.out 0;have GM:=bF Bd.out 1;have GN:=bF Bd.out 2;have p230:0≤((ji34):Int):=of_decide_eq_true (by first|(with_reducible assumption)|assumption);have q230:(ji34)<(l0_1.length:Int):=of_decide_eq_true (by first|(with_reducible assumption)|assumption);obtain ⟨ad230,e230,hx230_0⟩:=Kd.at_bool HR0_1.out (ji34) p230 q230;(try rw [← Nbq37.out] at hx230_0);cases e230;replace hx230_0:=(HB.out.cell (World.block_lt_of_cell? w _ hx230_0)).trans hx230_0;replace p230:=eq_true p230;replace q230:=eq_true q230)|(go_at_call 40;(with_reducible refine (impl_Sigs_does.calls kj18 _ _ l0_0 _ _ l0_1 _ _ l0_2 a1 t232 _ ?side1 ?side2 ?side3 ?side4 ?side5 ?side6 A53.out).mono ?_);(case side1=>repeat (first|exact (cB HR0_0.out HB.out)|(with_reducible refine cA ?_ _)|(with_reducible refine cN ?_ _)|(with_reducible refine cD ?_)));(case side2=>exact HC0_0.out);(case side3=>repeat (first|exact (cB HR0_1.out HB.out)|(with_reducible refine cA ?_ _)|(with_reducible refine cN ?_ _)|(with_reducible refine cD ?_)));(case side4=>exact HC0_1.out);(case side5=>repeat (first|exact (cB HR0_2.out HB.out)|(with_reducible refine cA ?_ _)|(with_reducible refine cN ?_ _)|(with_reducible refine cD ?_)));(case side6=>exact HC0_2.out);rintro e w62 ⟨rfl,hb⟩;have n0_:=Am (rB (rL Ba.out) hb);have n1_:=Am (rB (rL Bf.out) hb);have n2_:=Am (rB (rL Bg.out) hb);have n3_:=Am (bX Bd.out hb);have n4_:=Am (bX Bc.out hb);have n5_:=Am (bX Bb.out hb);have n6_:=Am (bP (by repeat (first|(with_reducible first|exact HB.out|apply oA|apply pN|apply o1|refine bS ?_ Bj.out|refine bS ?_ Bk.out|refine bS ?_ Bp.out)|exact HB.out)) hb);clear Ba Bf Bg Bd Bc Bb HB;revert n0_ n1_ n2_ n3_ n4_ n5_ n6_;intro Ba Bf Bg Bd Bc Bb HB;(try clear hb);(try clear hb2);(try clear hk);(try clear hi);have GO:=cz0 Bb.out;have GP:=cz1 Bb.out;have GQ:=cz2 Bb.out;have GR:=bF Bb.out 0;have GS:=bF Bb.out 1;have GT:=bF Bb.out 2;have GU:=cz0 Bc.out;have GV:=cz1 Bc.out;have GW:=cz2 Bc.out;have GX:=bF Bc.out 0;have GY:=bF Bc.out 1;have GZ:=bF Bc.out 2))
       refine bodyPost_ret (results_ct rfl _ _ Be 26 #[.slice (some ⟨go33,0,none⟩) t219.length co24,.slice Ao28 t222.length co28,.slice Ao29 t225.length co29] (0,0) _ rfl (by (with_reducible repeat (first|refine bN ?_ _|refine bD ?_|refine bA ?_ _));refine blk_put (cs:=#[.slice (some ⟨go33,0,none⟩) t219.length co24,.slice Ao28 t222.length co28,.slice none 0 0]) ?_ 2 _ rfl;(with_reducible repeat (first|refine bN ?_ _|refine bD ?_|refine bA ?_ _));refine blk_put (cs:=#[.slice (some ⟨go33,0,none⟩) t219.length co24,.slice none 0 0,.slice none 0 0]) ?_ 1 _ rfl;(with_reducible repeat (first|refine bN ?_ _|refine bD ?_|refine bA ?_ _));refine blk_put (cs:=#[.slice none 0 0,.slice none 0 0,.slice none 0 0]) ?_ 0 _ rfl;(with_reducible repeat (first|refine bN ?_ _|refine bD ?_|refine bA ?_ _));exact Bc.out) Try.underlying26 rfl (by kernel_rfl)) rfl ?_
       exact ⟨_,_,_,by first|rfl|(simp [errW_none,errW_some] <;> rfl)|(simp only [← hji34];first|rfl|(simp [errW_none,errW_some] <;> rfl))|(simp [*,errW_none,errW_some] <;> rfl),by (with_reducible repeat (first|apply rA|apply rN|apply rD));exact rM (rF (p:=⟨Be,2,none⟩) (rF (p:=⟨Be,1,none⟩) (rF (p:=⟨Be,0,none⟩) (rT Ba.out Bc.out (by decide)) (fun _ hk=>hk.2) (.slice (some ⟨go33,0,none⟩) t219.length co24)) (fun _ hk=>hk.2) (.slice Ao28 t222.length co28)) (fun _ hk=>hk.2) (.slice Ao29 t225.length co29)) (fun _ hk=>hk.1),by (with_reducible repeat (first|apply rA|apply rN|apply rD));exact rM (rF (p:=⟨Be,2,none⟩) (rF (p:=⟨Be,1,none⟩) (rF (p:=⟨Be,0,none⟩) (rT Bf.out Bc.out (by decide)) (fun _ hk=>hk.2) (.slice (some ⟨go33,0,none⟩) t219.length co24)) (fun _ hk=>hk.2) (.slice Ao28 t222.length co28)) (fun _ hk=>hk.2) (.slice Ao29 t225.length co29)) (fun _ hk=>hk.1.2),by (with_reducible repeat (first|apply rA|apply rN|apply rD));exact rM (rF (p:=⟨Be,2,none⟩) (rF (p:=⟨Be,1,none⟩) (rF (p:=⟨Be,0,none⟩) (rT Bg.out Bc.out (by decide)) (fun _ hk=>hk.2) (.slice (some ⟨go33,0,none⟩) t219.length co24)) (fun _ hk=>hk.2) (.slice Ao28 t222.length co28)) (fun _ hk=>hk.2) (.slice Ao29 t225.length co29)) (fun _ hk=>trivial),by repeat (first|(with_reducible first|exact HB.out|apply oA|apply pN|apply o1|refine bS ?_ Bj.out|refine bS ?_ Bk.out|refine bS ?_ Bp.out)|exact HB.out)⟩
      rw [if_neg c54] at H
      have c54b0:(t232 == 1)=false:=beq_eq_false_iff_ne.mpr c54
      have c54b1:(t232 != 1)=true:=bne_iff_ne.mpr c54
      by_cases c65:(ji34)<(t219.length:Int)
      rotate_left
      ·rw [if_neg c65] at H
       exact absurd H (by simp)
      rw [if_pos c65] at H
      have c65b0:decide ((ji34)<(t219.length:Int))=true:=decide_eq_true c65
      clear c65
      obtain ⟨y233,hy233⟩:∃ y_:List Bool,y_=(y229.set ((ji34):Int).toNat true):=⟨_,rfl⟩
      replace H:(some (y233,t222,t225,true))=some (r1,r2,r3,r4):=by first|(rw [hy233];with_reducible exact H)|(have H2_:=(Option.bind_some _ _).symm.trans H;rw [hy233];with_reducible exact H2_)|(have H2_:=(Option.bind_some _ _).symm.trans H;with_reducible exact H2_)|with_reducible exact H|(rw [hy233];exact H)|exact H
      have Ny233:=Am hy233
      clear hy233
      simp only [Option.some.injEq,Prod.mk.injEq] at H
      obtain ⟨rfl,rfl,rfl,rfl⟩:=H
      have Mt:=Bq.out
      have Mu:=Bn.out
      have Mv:=Br.out
      have Mw:=Bo.out
      have G0:=cz0 Bb.out
      have G1:=cz1 Bb.out
      have G2:=cz2 Bb.out
      have G3:=bF Bb.out 0
      have G4:=bF Bb.out 1
      have G5:=bF Bb.out 2
      have p33:0≤(2:Int):=(by omega)
      have q33:(2:Int)<((t219.length:Int):Int):=of_decide_eq_true (by first|(with_reducible assumption)|assumption)
      have qi33:(2<t219.length)=True:=eq_true (by omega)
      obtain ⟨go33,co33,eo33,Bs,gl33,cl33,HG33⟩:=Kd.R_form Ba.out (by omega)
      (first|cases eo33|(injection eo33 with ea_ en_ ec_;(first|subst ea_|(injection ea_ with ea_;subst ea_));subst ec_;clear en_))
      have GB33:=Am Bs
      have GG33:=Am HG33
      clear Bs gl33 HG33
      obtain ⟨hx33_0,hf33_0⟩:=Kd.R_celln false Ba.out (2:Int) p33 q33
      (try rw [show ((2:Int)).toNat=2 from rfl] at hx33_0)
      (try simp only [Nat.reduceMul,Nat.zero_mul,Nat.zero_add,Nat.reduceAdd] at hx33_0)
      (try rw [show ((2:Int)).toNat=2 from rfl] at hf33_0)
      (try simp only [Nat.reduceMul,Nat.zero_mul,Nat.zero_add,Nat.reduceAdd] at hf33_0)
      replace p33:=eq_true p33
      replace q33:=eq_true q33
      have HP70:=Kd.R_putg Ba.out (2:Int) false
      go_wp2_with (first|((with_reducible refine gate_store (t:=4) (p:=24) rfl ?_);refine store_event (t:=4) (p:=24) (v:=?vo_w71) (w1:=(wc.setCell ⟨go33,(2:Int).toNat,none⟩ (.bool false))) ?hg ?ho ?hn ?hr ?_;(case ho=>rfl);(case hg=>rfl);(case hn=>rfl);(case hr=>first|(go_simp;done)|(go_simp;rfl));intro w71 hw;have hg:wc.grownBy w71 (some go33):=(by rw [hw];exact HP70.2);have hp_:Kd.R Kd.bool 4 w71 w.heap.size (fun k_=>some k_≠(.slice Ao28 t222.length co28:Value).ownBlock) (.slice (some ⟨go33,0,none⟩) t219.length co24) y229:=(by rw [hw,Ny229.out];exact HP70.1);clear HP70;have n0_:=Am (hp_);have n1_:=Am (Kd.R_after (v:=(.slice (some ⟨go33,0,none⟩) t219.length co24)) (v1:=(.slice (some ⟨go33,0,none⟩) t219.length co24)) (ok:=(fun _=>True)) (by (with_reducible repeat (first|apply rA|apply rN|apply rD));exact rM Bf.out (fun _ hk=>⟨trivial,hk⟩)) hg (.inl rfl));have n2_:=Am (Kd.R_over' (v:=(.slice (some ⟨go33,0,none⟩) t219.length co24)) (rL Bg.out) (Kd.R_typed Ba.out) (by decide) hg);have n3_:=Am (blk_grown (g:=Bi) (o:=.cells #[.slice A0_0 l0_0.length c0_0,.slice A0_1 l0_1.length c0_1,.slice A0_2 l0_2.length c0_2] 26 (0,0)) (bL Bd.out) hg (Kd.R_ne Ba.out Bd.out (by decide)));have n4_:=Am (blk_grown (g:=Be) (o:=.cells #[.slice none 0 0,.slice none 0 0,.slice none 0 0] 26 (0,0)) (bL Bc.out) hg (Kd.R_ne Ba.out Bc.out (by decide)));have n5_:=Am (blk_grown (g:=Bh) (o:=.cells #[.slice (some ⟨go33,0,none⟩) t219.length co24,.slice Ao28 t222.length co28,.slice Ao29 t225.length co29] 26 (0,0)) (bL Bb.out) hg (Kd.R_ne Ba.out Bb.out (by decide)));have n6_:=Am ((by rw [hw];exact bS (HB.out) GB33.out:Below w.heap.size w w71));clear Ba Bf Bg Bd Bc Bb HB;revert n0_ n1_ n2_ n3_ n4_ n5_ n6_;intro Ba Bf Bg Bd Bc Bb HB;clear hg hw hp_;have Mx:=Bl.out;have My:=Bm.out;have G6:=cz0 Bd.out;have G7:=cz1 Bd.out;have G8:=cz2 Bd.out;have G9:=bF Bd.out 0;have Ja:=bF Bd.out 1;have Jb:=bF Bd.out 2;have p230:0≤((ji34):Int):=of_decide_eq_true (by first|(with_reducible assumption)|assumption);have q230:(ji34)<(l0_1.length:Int):=of_decide_eq_true (by first|(with_reducible assumption)|assumption);obtain ⟨ad230,e230,hx230_0⟩:=Kd.at_bool HR0_1.out (ji34) p230 q230;(try rw [← Nbq37.out] at hx230_0);cases e230;replace hx230_0:=(HB.out.cell (World.block_lt_of_cell? w _ hx230_0)).trans hx230_0;replace p230:=eq_true p230;replace q230:=eq_true q230)|(go_at_call 40;(with_reducible refine (impl_Sigs_does.calls kj18 _ _ l0_0 _ _ l0_1 _ _ l0_2 a1 t232 _ ?side1 ?side2 ?side3 ?side4 ?side5 ?side6 A53.out).mono ?_);(case side1=>repeat (first|exact (cB HR0_0.out HB.out)|(with_reducible refine cA ?_ _)|(with_reducible refine cN ?_ _)|(with_reducible refine cD ?_)));(case side2=>exact HC0_0.out);(case side3=>repeat (first|exact (cB HR0_1.out HB.out)|(with_reducible refine cA ?_ _)|(with_reducible refine cN ?_ _)|(with_reducible refine cD ?_)));(case side4=>exact HC0_1.out);(case side5=>repeat (first|exact (cB HR0_2.out HB.out)|(with_reducible refine cA ?_ _)|(with_reducible refine cN ?_ _)|(with_reducible refine cD ?_)));(case side6=>exact HC0_2.out);rintro e w74 ⟨rfl,hb⟩;have n0_:=Am (rB (rL Ba.out) hb);have n1_:=Am (rB (rL Bf.out) hb);have n2_:=Am (rB (rL Bg.out) hb);have n3_:=Am (bX Bd.out hb);have n4_:=Am (bX Bc.out hb);have n5_:=Am (bX Bb.out hb);have n6_:=Am (bP (by repeat (first|(with_reducible first|exact HB.out|apply oA|apply pN|apply o1|refine bS ?_ Bj.out|refine bS ?_ Bk.out|refine bS ?_ Bp.out)|exact HB.out)) hb);clear Ba Bf Bg Bd Bc Bb HB;revert n0_ n1_ n2_ n3_ n4_ n5_ n6_;intro Ba Bf Bg Bd Bc Bb HB;(try clear hb);(try clear hb2);(try clear hk);(try clear hi);have Jc:=cz0 Bb.out;have Jd:=cz1 Bb.out;have Je:=cz2 Bb.out;have Jf:=bF Bb.out 0;have Jg:=bF Bb.out 1;have Jh:=bF Bb.out 2;have p66:0≤((ji34):Int):=of_decide_eq_true (by first|(with_reducible assumption)|assumption);have q66:((ji34):Int)<((t219.length:Int):Int):=of_decide_eq_true (by first|(with_reducible assumption)|assumption);obtain ⟨hx66_0,hf66_0⟩:=Kd.R_celln false Ba.out ((ji34):Int) p66 q66;replace p66:=eq_true p66;replace q66:=eq_true q66;obtain ⟨hy76_,hz76_⟩:=Kd.R_celln false Ba.out ((ji34):Int) (of_decide_eq_true (by first|(with_reducible assumption)|assumption)) (of_decide_eq_true (by first|(with_reducible assumption)|assumption));have HP76:=Kd.R_putg Ba.out ((ji34):Int) true)|((with_reducible refine gate_store (t:=4) (p:=49) rfl ?_);refine store_event (t:=4) (p:=49) (v:=?vo_w77) (w1:=(w74.setCell ⟨go33,((ji34):Int).toNat,none⟩ (.bool true))) ?hg ?ho ?hn ?hr ?_;(case ho=>rfl);(case hg=>rfl);(case hn=>rfl);(case hr=>first|(go_simp;done)|(go_simp;rfl));intro w77 hw;have hg:w74.grownBy w77 (some go33):=(by rw [hw];exact HP76.2);have hp_:Kd.R Kd.bool 4 w77 w.heap.size (fun k_=>some k_≠(.slice Ao28 t222.length co28:Value).ownBlock) (.slice (some ⟨go33,0,none⟩) t219.length co24) y233:=(by rw [hw,Ny233.out];exact HP76.1);clear HP76;have n0_:=Am (hp_);have n1_:=Am (Kd.R_after (v:=(.slice (some ⟨go33,0,none⟩) t219.length co24)) (v1:=(.slice (some ⟨go33,0,none⟩) t219.length co24)) (ok:=(fun _=>True)) (rL Bf.out) hg (.inl rfl));have n2_:=Am (Kd.R_over' (v:=(.slice (some ⟨go33,0,none⟩) t219.length co24)) (rL Bg.out) (Kd.R_typed Ba.out) (by decide) hg);have n3_:=Am (blk_grown (g:=Bi) (o:=.cells #[.slice A0_0 l0_0.length c0_0,.slice (some ad230) l0_1.length c0_1,.slice A0_2 l0_2.length c0_2] 26 (0,0)) (bL Bd.out) hg (Kd.R_ne Ba.out Bd.out (by decide)));have n4_:=Am (blk_grown (g:=Be) (o:=.cells #[.slice none 0 0,.slice none 0 0,.slice none 0 0] 26 (0,0)) (bL Bc.out) hg (Kd.R_ne Ba.out Bc.out (by decide)));have n5_:=Am (blk_grown (g:=Bh) (o:=.cells #[.slice (some ⟨go33,0,none⟩) t219.length co24,.slice Ao28 t222.length co28,.slice Ao29 t225.length co29] 26 (0,0)) (bL Bb.out) hg (Kd.R_ne Ba.out Bb.out (by decide)));have n6_:=Am ((by rw [hw];exact bS (HB.out) GB33.out:Below w.heap.size w w77));clear Ba Bf Bg Bd Bc Bb HB;revert n0_ n1_ n2_ n3_ n4_ n5_ n6_;intro Ba Bf Bg Bd Bc Bb HB;clear hg hw hp_;have Ji:=cz0 Bb.out;have Jj:=cz1 Bb.out;have Jk:=cz2 Bb.out;have Jl:=bF Bb.out 0;have Jm:=bF Bb.out 1;have Jn:=bF Bb.out 2;have Jo:=cz0 Bc.out;have Jp:=cz1 Bc.out;have Jq:=cz2 Bc.out;have Jr:=bF Bc.out 0;have Js:=bF Bc.out 1;have Jt:=bF Bc.out 2))
      refine bodyPost_ret (results_ct rfl _ _ Be 26 #[.slice (some ⟨go33,0,none⟩) t219.length co24,.slice Ao28 t222.length co28,.slice Ao29 t225.length co29] (0,0) _ rfl (by (with_reducible repeat (first|refine bN ?_ _|refine bD ?_|refine bA ?_ _));refine blk_put (cs:=#[.slice (some ⟨go33,0,none⟩) t219.length co24,.slice Ao28 t222.length co28,.slice none 0 0]) ?_ 2 _ rfl;(with_reducible repeat (first|refine bN ?_ _|refine bD ?_|refine bA ?_ _));refine blk_put (cs:=#[.slice (some ⟨go33,0,none⟩) t219.length co24,.slice none 0 0,.slice none 0 0]) ?_ 1 _ rfl;(with_reducible repeat (first|refine bN ?_ _|refine bD ?_|refine bA ?_ _));refine blk_put (cs:=#[.slice none 0 0,.slice none 0 0,.slice none 0 0]) ?_ 0 _ rfl;(with_reducible repeat (first|refine bN ?_ _|refine bD ?_|refine bA ?_ _));exact Bc.out) Try.underlying26 rfl (by kernel_rfl)) rfl ?_
      exact ⟨_,_,_,by first|rfl|(simp [errW_none,errW_some] <;> rfl)|(simp only [← hji34];first|rfl|(simp [errW_none,errW_some] <;> rfl))|(simp [*,errW_none,errW_some] <;> rfl),by (with_reducible repeat (first|apply rA|apply rN|apply rD));exact rM (rF (p:=⟨Be,2,none⟩) (rF (p:=⟨Be,1,none⟩) (rF (p:=⟨Be,0,none⟩) (rT Ba.out Bc.out (by decide)) (fun _ hk=>hk.2) (.slice (some ⟨go33,0,none⟩) t219.length co24)) (fun _ hk=>hk.2) (.slice Ao28 t222.length co28)) (fun _ hk=>hk.2) (.slice Ao29 t225.length co29)) (fun _ hk=>hk.1),by (with_reducible repeat (first|apply rA|apply rN|apply rD));exact rM (rF (p:=⟨Be,2,none⟩) (rF (p:=⟨Be,1,none⟩) (rF (p:=⟨Be,0,none⟩) (rT Bf.out Bc.out (by decide)) (fun _ hk=>hk.2) (.slice (some ⟨go33,0,none⟩) t219.length co24)) (fun _ hk=>hk.2) (.slice Ao28 t222.length co28)) (fun _ hk=>hk.2) (.slice Ao29 t225.length co29)) (fun _ hk=>hk.1.2),by (with_reducible repeat (first|apply rA|apply rN|apply rD));exact rM (rF (p:=⟨Be,2,none⟩) (rF (p:=⟨Be,1,none⟩) (rF (p:=⟨Be,0,none⟩) (rT Bg.out Bc.out (by decide)) (fun _ hk=>hk.2) (.slice (some ⟨go33,0,none⟩) t219.length co24)) (fun _ hk=>hk.2) (.slice Ao28 t222.length co28)) (fun _ hk=>hk.2) (.slice Ao29 t225.length co29)) (fun _ hk=>trivial),by repeat (first|(with_reducible first|exact HB.out|apply oA|apply pN|apply o1|refine bS ?_ Bj.out|refine bS ?_ Bk.out|refine bS ?_ Bp.out)|exact HB.out)⟩
     replace c31:=Bool.eq_false_iff.mpr c31
     subst c31
     have H1:(if a1=3 then (if 1<(t219.length:Int) then (if 5<(t219.length:Int) then ((some ((t219.set (1:Int).toNat false).set (5:Int).toNat false:List Bool)).bind fun y235=>(if 0≤(wrap64 (a1 - 1)) then (if (wrap64 (a1 - 1))<(l0_1.length:Int) then (if rdOf false l0_1 (wrap64 (a1 - 1))=true then (if (wrap64 (a1 - 1))<(t219.length:Int) then (some ((y235.set ((wrap64 (a1 - 1)):Int).toNat true),t222,t225,true)) else (none)) else ((impl_Sigs_does.f kj18 l0_0 l0_1 l0_2 a1).bind fun t238=>(if t238=1 then (some (y235,t222,t225,true)) else (if (wrap64 (a1 - 1))<(t219.length:Int) then (some ((y235.set ((wrap64 (a1 - 1)):Int).toNat true),t222,t225,true)) else (none))))) else (none)) else (none))) else (none)) else (none)) else (if 0≤(wrap64 (a1 - 1)) then (if (wrap64 (a1 - 1))<(l0_1.length:Int) then (if rdOf false l0_1 (wrap64 (a1 - 1))=true then (if (wrap64 (a1 - 1))<(t219.length:Int) then (some ((t219.set ((wrap64 (a1 - 1)):Int).toNat true),t222,t225,true)) else (none)) else ((impl_Sigs_does.f kj18 l0_0 l0_1 l0_2 a1).bind fun t242=>(if t242=1 then (some (t219,t222,t225,true)) else (if (wrap64 (a1 - 1))<(t219.length:Int) then (some ((t219.set ((wrap64 (a1 - 1)):Int).toNat true),t222,t225,true)) else (none))))) else (none)) else (none)))=some (r1,r2,r3,r4):=by rw [if_neg (show ¬ (false=true) by decide)] at H;exact H
     clear H
     have H:=H1
     clear H1
     by_cases c80:a1=3
     rotate_left
     ·rw [if_neg c80] at H
      have c80b0:(a1 == 3)=false:=beq_eq_false_iff_ne.mpr c80
      have c80b1:(a1 != 3)=true:=bne_iff_ne.mpr c80
      obtain ⟨ji134,hji134⟩:∃ j_:Int,(wrap64 (a1 - 1))=j_:=⟨_,rfl⟩
      replace H:(if 0≤(ji134) then (if (ji134)<(l0_1.length:Int) then (if rdOf false l0_1 (ji134)=true then (if (ji134)<(t219.length:Int) then (some ((t219.set ((ji134):Int).toNat true),t222,t225,true)) else (none)) else ((impl_Sigs_does.f kj18 l0_0 l0_1 l0_2 a1).bind fun t242=>(if t242=1 then (some (t219,t222,t225,true)) else (if (ji134)<(t219.length:Int) then (some ((t219.set ((ji134):Int).toNat true),t222,t225,true)) else (none))))) else (none)) else (none))=some (r1,r2,r3,r4):=by first|(rw [hji134] at H;exact H)|(simp only [hji134] at H ⊢;exact H)
      have hji134w:(IntKind.i64.wrap (a1 - 1))=ji134:=(i64_w _).trans hji134
      by_cases c135:0≤(ji134)
      rotate_left
      ·rw [if_neg c135] at H
       exact absurd H (by simp)

      rw [if_pos c135] at H
      have c135b0:decide (0≤(ji134))=true:=decide_eq_true c135
      clear c135
      by_cases c136:(ji134)<(l0_1.length:Int)
      rotate_left
      ·rw [if_neg c136] at H
       exact absurd H (by simp)
      rw [if_pos c136] at H
      have c136b0:decide ((ji134)<(l0_1.length:Int))=true:=decide_eq_true c136
      clear c136
      obtain ⟨bq137,hbq137⟩:∃ b_:Bool,b_=(rdOf false l0_1 (ji134)):=⟨_,rfl⟩
      replace H:(if bq137=true then (if (ji134)<(t219.length:Int) then (some ((t219.set ((ji134):Int).toNat true),t222,t225,true)) else (none)) else ((impl_Sigs_does.f kj18 l0_0 l0_1 l0_2 a1).bind fun t242=>(if t242=1 then (some (t219,t222,t225,true)) else (if (ji134)<(t219.length:Int) then (some ((t219.set ((ji134):Int).toNat true),t222,t225,true)) else (none)))))=some (r1,r2,r3,r4):=by rw [← hbq137] at H;exact H
      have Nbq137:=Am hbq137
      clear hbq137
      by_cases c138:bq137=true
      ·subst c138
       have H1:(if (ji134)<(t219.length:Int) then (some ((t219.set ((ji134):Int).toNat true),t222,t225,true)) else (none))=some (r1,r2,r3,r4):=by rw [if_pos rfl] at H;exact H
       clear H
       have H:=H1
       clear H1
       by_cases c139:(ji134)<(t219.length:Int)
       rotate_left
       ·rw [if_neg c139] at H
        exact absurd H (by simp)
       rw [if_pos c139] at H
       have c139b0:decide ((ji134)<(t219.length:Int))=true:=decide_eq_true c139
       clear c139
       obtain ⟨y241,hy241⟩:∃ y_:List Bool,y_=(t219.set ((ji134):Int).toNat true):=⟨_,rfl⟩
       replace H:(some (y241,t222,t225,true))=some (r1,r2,r3,r4):=by first|(rw [hy241];with_reducible exact H)|(have H2_:=(Option.bind_some _ _).symm.trans H;rw [hy241];with_reducible exact H2_)|(have H2_:=(Option.bind_some _ _).symm.trans H;with_reducible exact H2_)|with_reducible exact H|(rw [hy241];exact H)|exact H
       have Ny241:=Am hy241
       clear hy241
       simp only [Option.some.injEq,Prod.mk.injEq] at H
       obtain ⟨rfl,rfl,rfl,rfl⟩:=H
       have JM:=Bl.out
       have JN:=Bm.out
       have JO:=Bn.out
       have JP:=Bq.out
       have D3:=cz0 Bd.out
       have D4:=cz1 Bd.out
       have D5:=cz2 Bd.out
       have D6:=bF Bd.out 0
       have D7:=bF Bd.out 1
       have D8:=bF Bd.out 2
       have p240:0≤((ji134):Int):=of_decide_eq_true (by first|(with_reducible assumption)|assumption)
       have q240:(ji134)<(l0_1.length:Int):=of_decide_eq_true (by first|(with_reducible assumption)|assumption)
       obtain ⟨ad240,e240,hx240_0⟩:=Kd.at_bool HR0_1.out (ji134) p240 q240
       (try rw [← Nbq137.out] at hx240_0)
       cases e240
       replace hx240_0:=(bW HB hx240_0:)
       replace p240:=eq_true p240
       replace q240:=eq_true q240
       have JQ:=Br.out
       have JR:=Bo.out
       have D9:=cz0 Bb.out
       have Fa:=cz1 Bb.out
       have Fb:=cz2 Bb.out
       have Fc:=bF Bb.out 0
       have Fd:=bF Bb.out 1
       have Fe:=bF Bb.out 2
       have p140:0≤((ji134):Int):=of_decide_eq_true (by first|(with_reducible assumption)|assumption)
       have q140:((ji134):Int)<((t219.length:Int):Int):=of_decide_eq_true (by first|(with_reducible assumption)|assumption)
       obtain ⟨go140,co140,eo140,BJ,gl140,cl140,HG140⟩:=Kd.R_form Ba.out (by omega)
       (first|cases eo140|(injection eo140 with ea_ en_ ec_;(first|subst ea_|(injection ea_ with ea_;subst ea_));subst ec_;clear en_))
       have GB140:=Am BJ
       have GG140:=Am HG140
       clear BJ gl140 HG140
       obtain ⟨hx140_0,hf140_0⟩:=Kd.R_celln false Ba.out ((ji134):Int) p140 q140
       replace p140:=eq_true p140
       replace q140:=eq_true q140
       have HP146:=Kd.R_putg Ba.out ((ji134):Int) true
       go_wp2_with (first|((with_reducible refine gate_store (t:=4) (p:=49) rfl ?_);refine store_event (t:=4) (p:=49) (v:=?vo_w147) (w1:=(wc.setCell ⟨go140,((ji134):Int).toNat,none⟩ (.bool true))) ?hg ?ho ?hn ?hr ?_;(case ho=>rfl);(case hg=>rfl);(case hn=>rfl);(case hr=>first|(go_simp;done)|(go_simp;rfl));intro w147 hw;have hg:wc.grownBy w147 (some go140):=(by rw [hw];exact HP146.2);have hp_:Kd.R Kd.bool 4 w147 w.heap.size (fun k_=>some k_≠(.slice Ao28 t222.length co28:Value).ownBlock) (.slice (some ⟨go140,0,none⟩) t219.length co24) y241:=(by rw [hw,Ny241.out];exact HP146.1);clear HP146;have n0_:=Am (hp_);have n1_:=Am (Kd.R_after (v:=(.slice (some ⟨go140,0,none⟩) t219.length co24)) (v1:=(.slice (some ⟨go140,0,none⟩) t219.length co24)) (ok:=(fun _=>True)) (by (with_reducible repeat (first|apply rA|apply rN|apply rD));exact rM Bf.out (fun _ hk=>⟨trivial,hk⟩)) hg (.inl rfl));have n2_:=Am (Kd.R_over' (v:=(.slice (some ⟨go140,0,none⟩) t219.length co24)) (rL Bg.out) (Kd.R_typed Ba.out) (by decide) hg);have n3_:=Am (blk_grown (g:=Bi) (o:=.cells #[.slice A0_0 l0_0.length c0_0,.slice (some ad240) l0_1.length c0_1,.slice A0_2 l0_2.length c0_2] 26 (0,0)) (bL Bd.out) hg (Kd.R_ne Ba.out Bd.out (by decide)));have n4_:=Am (blk_grown (g:=Be) (o:=.cells #[.slice none 0 0,.slice none 0 0,.slice none 0 0] 26 (0,0)) (bL Bc.out) hg (Kd.R_ne Ba.out Bc.out (by decide)));have n5_:=Am (blk_grown (g:=Bh) (o:=.cells #[.slice (some ⟨go140,0,none⟩) t219.length co24,.slice Ao28 t222.length co28,.slice Ao29 t225.length co29] 26 (0,0)) (bL Bb.out) hg (Kd.R_ne Ba.out Bb.out (by decide)));have n6_:=Am ((by rw [hw];exact bS (HB.out) GB140.out:Below w.heap.size w w147));clear Ba Bf Bg Bd Bc Bb HB;revert n0_ n1_ n2_ n3_ n4_ n5_ n6_;intro Ba Bf Bg Bd Bc Bb HB;clear hg hw hp_;have Ff:=cz0 Bb.out;have Fg:=cz1 Bb.out;have Fh:=cz2 Bb.out;have Fi:=bF Bb.out 0;have Fj:=bF Bb.out 1;have Fk:=bF Bb.out 2;have Fl:=cz0 Bc.out;have Fm:=cz1 Bc.out;have Fn:=cz2 Bc.out;have Fo:=bF Bc.out 0;have Fp:=bF Bc.out 1;have Fq:=bF Bc.out 2))
       refine bodyPost_ret (results_ct rfl _ _ Be 26 #[.slice (some ⟨go140,0,none⟩) t219.length co24,.slice Ao28 t222.length co28,.slice Ao29 t225.length co29] (0,0) _ rfl (by (with_reducible repeat (first|refine bN ?_ _|refine bD ?_|refine bA ?_ _));refine blk_put (cs:=#[.slice (some ⟨go140,0,none⟩) t219.length co24,.slice Ao28 t222.length co28,.slice none 0 0]) ?_ 2 _ rfl;(with_reducible repeat (first|refine bN ?_ _|refine bD ?_|refine bA ?_ _));refine blk_put (cs:=#[.slice (some ⟨go140,0,none⟩) t219.length co24,.slice none 0 0,.slice none 0 0]) ?_ 1 _ rfl;(with_reducible repeat (first|refine bN ?_ _|refine bD ?_|refine bA ?_ _));refine blk_put (cs:=#[.slice none 0 0,.slice none 0 0,.slice none 0 0]) ?_ 0 _ rfl;(with_reducible repeat (first|refine bN ?_ _|refine bD ?_|refine bA ?_ _));exact Bc.out) Try.underlying26 rfl (by kernel_rfl)) rfl ?_
       exact ⟨_,_,_,by first|rfl|(simp [errW_none,errW_some] <;> rfl)|(simp only [← hji134];first|rfl|(simp [errW_none,errW_some] <;> rfl))|(simp [*,errW_none,errW_some] <;> rfl),by (with_reducible repeat (first|apply rA|apply rN|apply rD));exact rM (rF (p:=⟨Be,2,none⟩) (rF (p:=⟨Be,1,none⟩) (rF (p:=⟨Be,0,none⟩) (rT Ba.out Bc.out (by decide)) (fun _ hk=>hk.2) (.slice (some ⟨go140,0,none⟩) t219.length co24)) (fun _ hk=>hk.2) (.slice Ao28 t222.length co28)) (fun _ hk=>hk.2) (.slice Ao29 t225.length co29)) (fun _ hk=>hk.1),by (with_reducible repeat (first|apply rA|apply rN|apply rD));exact rM (rF (p:=⟨Be,2,none⟩) (rF (p:=⟨Be,1,none⟩) (rF (p:=⟨Be,0,none⟩) (rT Bf.out Bc.out (by decide)) (fun _ hk=>hk.2) (.slice (some ⟨go140,0,none⟩) t219.length co24)) (fun _ hk=>hk.2) (.slice Ao28 t222.length co28)) (fun _ hk=>hk.2) (.slice Ao29 t225.length co29)) (fun _ hk=>hk.1.2),by (with_reducible repeat (first|apply rA|apply rN|apply rD));exact rM (rF (p:=⟨Be,2,none⟩) (rF (p:=⟨Be,1,none⟩) (rF (p:=⟨Be,0,none⟩) (rT Bg.out Bc.out (by decide)) (fun _ hk=>hk.2) (.slice (some ⟨go140,0,none⟩) t219.length co24)) (fun _ hk=>hk.2) (.slice Ao28 t222.length co28)) (fun _ hk=>hk.2) (.slice Ao29 t225.length co29)) (fun _ hk=>trivial),by repeat (first|(with_reducible first|exact HB.out|apply oA|apply pN|apply o1|refine bS ?_ Bj.out|refine bS ?_ Bk.out|refine bS ?_ Bp.out)|exact HB.out)⟩
      replace c138:=Bool.eq_false_iff.mpr c138
      subst c138
      have H1:((impl_Sigs_does.f kj18 l0_0 l0_1 l0_2 a1).bind fun t242=>(if t242=1 then (some (t219,t222,t225,true)) else (if (ji134)<(t219.length:Int) then (some ((t219.set ((ji134):Int).toNat true),t222,t225,true)) else (none))))=some (r1,r2,r3,r4):=by rw [if_neg (show ¬ (false=true) by decide)] at H;exact H
      clear H
      have H:=H1
      clear H1
      replace H:=oC H
      obtain ⟨t242,A1500,H⟩:=H
      replace H:(if t242=1 then (some (t219,t222,t225,true)) else (if (ji134)<(t219.length:Int) then (some ((t219.set ((ji134):Int).toNat true),t222,t225,true)) else (none)))=some (r1,r2,r3,r4):=H
      have A150:=Am A1500
      clear A1500
      by_cases c151:t242=1
      ·rw [if_pos c151] at H
       have c151b0:(t242 == 1)=true:=beq_iff_eq.mpr c151
       have c151b1:(t242 != 1)=false:=bne_eq_false_iff_eq.mpr c151
       clear c151
       simp only [Option.some.injEq,Prod.mk.injEq] at H
       obtain ⟨rfl,rfl,rfl,rfl⟩:=H
       have JS:=Bl.out
       have JT:=Bm.out
       have JU:=Bn.out
       have JV:=Bq.out
       have Fr:=cz0 Bd.out
       have Fs:=cz1 Bd.out
       have Ft:=cz2 Bd.out
       have Fu:=bF Bd.out 0
       have Fv:=bF Bd.out 1
       have Fw:=bF Bd.out 2
       have p240:0≤((ji134):Int):=of_decide_eq_true (by first|(with_reducible assumption)|assumption)
       have q240:(ji134)<(l0_1.length:Int):=of_decide_eq_true (by first|(with_reducible assumption)|assumption)
       obtain ⟨ad240,e240,hx240_0⟩:=Kd.at_bool HR0_1.out (ji134) p240 q240
       (try rw [← Nbq137.out] at hx240_0)
       cases e240
       replace hx240_0:=(bW HB hx240_0:)
       replace p240:=eq_true p240
       replace q240:=eq_true q240
       go_wp2_with (first|(go_at_call 40;(with_reducible refine (impl_Sigs_does.calls kj18 _ _ l0_0 _ _ l0_1 _ _ l0_2 a1 t242 _ ?side1 ?side2 ?side3 ?side4 ?side5 ?side6 A150.out).mono ?_);(case side1=>repeat (first|exact (cB HR0_0.out HB.out)|(with_reducible refine cA ?_ _)|(with_reducible refine cN ?_ _)|(with_reducible refine cD ?_)));(case side2=>exact HC0_0.out);(case side3=>repeat (first|exact (cB HR0_1.out HB.out)|(with_reducible refine cA ?_ _)|(with_reducible refine cN ?_ _)|(with_reducible refine cD ?_)));(case side4=>exact HC0_1.out);(case side5=>repeat (first|exact (cB HR0_2.out HB.out)|(with_reducible refine cA ?_ _)|(with_reducible refine cN ?_ _)|(with_reducible refine cD ?_)));(case side6=>exact HC0_2.out);rintro e w155 ⟨rfl,hb⟩;have n0_:=Am (rB (rL Ba.out) hb);have n1_:=Am (rB (rL Bf.out) hb);have n2_:=Am (rB (rL Bg.out) hb);have n3_:=Am (bX Bd.out hb);have n4_:=Am (bX Bc.out hb);have n5_:=Am (bX Bb.out hb);have n6_:=Am (bP (by repeat (first|(with_reducible first|exact HB.out|apply oA|apply pN|apply o1|refine bS ?_ Bj.out|refine bS ?_ Bk.out|refine bS ?_ Bp.out)|exact HB.out)) hb);clear Ba Bf Bg Bd Bc Bb HB;revert n0_ n1_ n2_ n3_ n4_ n5_ n6_;intro Ba Bf Bg Bd Bc Bb HB;(try clear hb);(try clear hb2);(try clear hk);(try clear hi);have JW:=Br.out;have JX:=Bo.out;have Fx:=cz0 Bb.out;have Fy:=cz1 Bb.out;have Fz:=cz2 Bb.out;have FA:=bF Bb.out 0;have FB:=bF Bb.out 1;have FC:=bF Bb.out 2;have FD:=cz0 Bc.out;have FE:=cz1 Bc.out;have FF:=cz2 Bc.out;have FG:=bF Bc.out 0;have FH:=bF Bc.out 1;have FI:=bF Bc.out 2))
       refine bodyPost_ret (results_ct rfl _ _ Be 26 #[.slice Ao24 t219.length co24,.slice Ao28 t222.length co28,.slice Ao29 t225.length co29] (0,0) _ rfl (by (with_reducible repeat (first|refine bN ?_ _|refine bD ?_|refine bA ?_ _));refine blk_put (cs:=#[.slice Ao24 t219.length co24,.slice Ao28 t222.length co28,.slice none 0 0]) ?_ 2 _ rfl;(with_reducible repeat (first|refine bN ?_ _|refine bD ?_|refine bA ?_ _));refine blk_put (cs:=#[.slice Ao24 t219.length co24,.slice none 0 0,.slice none 0 0]) ?_ 1 _ rfl;(with_reducible repeat (first|refine bN ?_ _|refine bD ?_|refine bA ?_ _));refine blk_put (cs:=#[.slice none 0 0,.slice none 0 0,.slice none 0 0]) ?_ 0 _ rfl;(with_reducible repeat (first|refine bN ?_ _|refine bD ?_|refine bA ?_ _));exact Bc.out) Try.underlying26 rfl (by kernel_rfl)) rfl ?_
       exact ⟨_,_,_,by first|rfl|(simp [errW_none,errW_some] <;> rfl)|(simp only [← hji134];first|rfl|(simp [errW_none,errW_some] <;> rfl))|(simp [*,errW_none,errW_some] <;> rfl),by (with_reducible repeat (first|apply rA|apply rN|apply rD));exact rM (rF (p:=⟨Be,2,none⟩) (rF (p:=⟨Be,1,none⟩) (rF (p:=⟨Be,0,none⟩) (rT Ba.out Bc.out (by decide)) (fun _ hk=>hk.2) (.slice Ao24 t219.length co24)) (fun _ hk=>hk.2) (.slice Ao28 t222.length co28)) (fun _ hk=>hk.2) (.slice Ao29 t225.length co29)) (fun _ hk=>hk.1),by (with_reducible repeat (first|apply rA|apply rN|apply rD));exact rM (rF (p:=⟨Be,2,none⟩) (rF (p:=⟨Be,1,none⟩) (rF (p:=⟨Be,0,none⟩) (rT Bf.out Bc.out (by decide)) (fun _ hk=>hk.2) (.slice Ao24 t219.length co24)) (fun _ hk=>hk.2) (.slice Ao28 t222.length co28)) (fun _ hk=>hk.2) (.slice Ao29 t225.length co29)) (fun _ hk=>hk.1),by (with_reducible repeat (first|apply rA|apply rN|apply rD));exact rM (rF (p:=⟨Be,2,none⟩) (rF (p:=⟨Be,1,none⟩) (rF (p:=⟨Be,0,none⟩) (rT Bg.out Bc.out (by decide)) (fun _ hk=>hk.2) (.slice Ao24 t219.length co24)) (fun _ hk=>hk.2) (.slice Ao28 t222.length co28)) (fun _ hk=>hk.2) (.slice Ao29 t225.length co29)) (fun _ hk=>trivial),by repeat (first|(with_reducible first|exact HB.out|apply oA|apply pN|apply o1|refine bS ?_ Bj.out|refine bS ?_ Bk.out|refine bS ?_ Bp.out)|exact HB.out)⟩
      rw [if_neg c151] at H
      have c151b0:(t242 == 1)=false:=beq_eq_false_iff_ne.mpr c151
      have c151b1:(t242 != 1)=true:=bne_iff_ne.mpr c151
      by_cases c159:(ji134)<(t219.length:Int)
      rotate_left
      ·rw [if_neg c159] at H
       exact absurd H (by simp)
      rw [if_pos c159] at H
      have c159b0:decide ((ji134)<(t219.length:Int))=true:=decide_eq_true c159
      clear c159
      obtain ⟨y243,hy243⟩:∃ y_:List Bool,y_=(t219.set ((ji134):Int).toNat true):=⟨_,rfl⟩
      replace H:(some (y243,t222,t225,true))=some (r1,r2,r3,r4):=by first|(rw [hy243];with_reducible exact H)|(have H2_:=(Option.bind_some _ _).symm.trans H;rw [hy243];with_reducible exact H2_)|(have H2_:=(Option.bind_some _ _).symm.trans H;with_reducible exact H2_)|with_reducible exact H|(rw [hy243];exact H)|exact H
      have Ny243:=Am hy243
      clear hy243
      simp only [Option.some.injEq,Prod.mk.injEq] at H
      obtain ⟨rfl,rfl,rfl,rfl⟩:=H
      have JY:=Bl.out
      have JZ:=Bm.out
      have J0:=Bn.out
      have J1:=Bq.out
      have FJ:=cz0 Bd.out
      have FK:=cz1 Bd.out
      have FL:=cz2 Bd.out
      have FM:=bF Bd.out 0
      have FN:=bF Bd.out 1
      have FO:=bF Bd.out 2
      have p240:0≤((ji134):Int):=of_decide_eq_true (by first|(with_reducible assumption)|assumption)
      have q240:(ji134)<(l0_1.length:Int):=of_decide_eq_true (by first|(with_reducible assumption)|assumption)
      obtain ⟨ad240,e240,hx240_0⟩:=Kd.at_bool HR0_1.out (ji134) p240 q240
      (try rw [← Nbq137.out] at hx240_0)
      cases e240
      replace hx240_0:=(bW HB hx240_0:)
      replace p240:=eq_true p240
      replace q240:=eq_true q240
      go_wp2_with (first|(go_at_call 40;(with_reducible refine (impl_Sigs_does.calls kj18 _ _ l0_0 _ _ l0_1 _ _ l0_2 a1 t242 _ ?side1 ?side2 ?side3 ?side4 ?side5 ?side6 A150.out).mono ?_);(case side1=>repeat (first|exact (cB HR0_0.out HB.out)|(with_reducible refine cA ?_ _)|(with_reducible refine cN ?_ _)|(with_reducible refine cD ?_)));(case side2=>exact HC0_0.out);(case side3=>repeat (first|exact (cB HR0_1.out HB.out)|(with_reducible refine cA ?_ _)|(with_reducible refine cN ?_ _)|(with_reducible refine cD ?_)));(case side4=>exact HC0_1.out);(case side5=>repeat (first|exact (cB HR0_2.out HB.out)|(with_reducible refine cA ?_ _)|(with_reducible refine cN ?_ _)|(with_reducible refine cD ?_)));(case side6=>exact HC0_2.out);rintro e w164 ⟨rfl,hb⟩;have n0_:=Am (rB (rL Ba.out) hb);have n1_:=Am (rB (rL Bf.out) hb);have n2_:=Am (rB (rL Bg.out) hb);have n3_:=Am (bX Bd.out hb);have n4_:=Am (bX Bc.out hb);have n5_:=Am (bX Bb.out hb);have n6_:=Am (bP (by repeat (first|(with_reducible first|exact HB.out|apply oA|apply pN|apply o1|refine bS ?_ Bj.out|refine bS ?_ Bk.out|refine bS ?_ Bp.out)|exact HB.out)) hb);clear Ba Bf Bg Bd Bc Bb HB;revert n0_ n1_ n2_ n3_ n4_ n5_ n6_;intro Ba Bf Bg Bd Bc Bb HB;(try clear hb);(try clear hb2);(try clear hk);(try clear hi);have J2:=Br.out;have J3:=Bo.out;have FP:=cz0 Bb.out;have FQ:=cz1 Bb.out;have FR:=cz2 Bb.out;have FS:=bF Bb.out 0;have FT:=bF Bb.out 1;have FU:=bF Bb.out 2;have p160:0≤((ji134):Int):=of_decide_eq_true (by first|(with_reducible assumption)|assumption);have q160:((ji134):Int)<((t219.length:Int):Int):=of_decide_eq_true (by first|(with_reducible assumption)|assumption);obtain ⟨go160,co160,eo160,BK,gl160,cl160,HG160⟩:=Kd.R_form Ba.out (by omega);(first|cases eo160|(injection eo160 with ea_ en_ ec_;(first|subst ea_|(injection ea_ with ea_;subst ea_));subst ec_;clear en_));have GB160:=Am BK;have GG160:=Am HG160;clear BK gl160 HG160;obtain ⟨hx160_0,hf160_0⟩:=Kd.R_celln false Ba.out ((ji134):Int) p160 q160;replace p160:=eq_true p160;replace q160:=eq_true q160;obtain ⟨hy167_,hz167_⟩:=Kd.R_celln false Ba.out ((ji134):Int) (of_decide_eq_true (by first|(with_reducible assumption)|assumption)) (of_decide_eq_true (by first|(with_reducible assumption)|assumption));have HP167:=Kd.R_putg Ba.out ((ji134):Int) true)|((with_reducible refine gate_store (t:=4) (p:=49) rfl ?_);refine store_event (t:=4) (p:=49) (v:=?vo_w168) (w1:=(w164.setCell ⟨go160,((ji134):Int).toNat,none⟩ (.bool true))) ?hg ?ho ?hn ?hr ?_;(case ho=>rfl);(case hg=>rfl);(case hn=>rfl);(case hr=>first|(go_simp;done)|(go_simp;rfl));intro w168 hw;have hg:w164.grownBy w168 (some go160):=(by rw [hw];exact HP167.2);have hp_:Kd.R Kd.bool 4 w168 w.heap.size (fun k_=>some k_≠(.slice Ao28 t222.length co28:Value).ownBlock) (.slice (some ⟨go160,0,none⟩) t219.length co24) y243:=(by rw [hw,Ny243.out];exact HP167.1);clear HP167;have n0_:=Am (hp_);have n1_:=Am (Kd.R_after (v:=(.slice (some ⟨go160,0,none⟩) t219.length co24)) (v1:=(.slice (some ⟨go160,0,none⟩) t219.length co24)) (ok:=(fun _=>True)) (by (with_reducible repeat (first|apply rA|apply rN|apply rD));exact rM Bf.out (fun _ hk=>⟨trivial,hk⟩)) hg (.inl rfl));have n2_:=Am (Kd.R_over' (v:=(.slice (some ⟨go160,0,none⟩) t219.length co24)) (rL Bg.out) (Kd.R_typed Ba.out) (by decide) hg);have n3_:=Am (blk_grown (g:=Bi) (o:=.cells #[.slice A0_0 l0_0.length c0_0,.slice (some ad240) l0_1.length c0_1,.slice A0_2 l0_2.length c0_2] 26 (0,0)) (bL Bd.out) hg (Kd.R_ne Ba.out Bd.out (by decide)));have n4_:=Am (blk_grown (g:=Be) (o:=.cells #[.slice none 0 0,.slice none 0 0,.slice none 0 0] 26 (0,0)) (bL Bc.out) hg (Kd.R_ne Ba.out Bc.out (by decide)));have n5_:=Am (blk_grown (g:=Bh) (o:=.cells #[.slice (some ⟨go160,0,none⟩) t219.length co24,.slice Ao28 t222.length co28,.slice Ao29 t225.length co29] 26 (0,0)) (bL Bb.out) hg (Kd.R_ne Ba.out Bb.out (by decide)));have n6_:=Am ((by rw [hw];exact bS (HB.out) GB160.out:Below w.heap.size w w168));clear Ba Bf Bg Bd Bc Bb HB;revert n0_ n1_ n2_ n3_ n4_ n5_ n6_;intro Ba Bf Bg Bd Bc Bb HB;clear hg hw hp_;have FV:=cz0 Bb.out;have FW:=cz1 Bb.out;have FX:=cz2 Bb.out;have FY:=bF Bb.out 0;have FZ:=bF Bb.out 1;have F0:=bF Bb.out 2;have F1:=cz0 Bc.out;have F2:=cz1 Bc.out;have F3:=cz2 Bc.out;have F4:=bF Bc.out 0;have F5:=bF Bc.out 1;have F6:=bF Bc.out 2))
      refine bodyPost_ret (results_ct rfl _ _ Be 26 #[.slice (some ⟨go160,0,none⟩) t219.length co24,.slice Ao28 t222.length co28,.slice Ao29 t225.length co29] (0,0) _ rfl (by (with_reducible repeat (first|refine bN ?_ _|refine bD ?_|refine bA ?_ _));refine blk_put (cs:=#[.slice (some ⟨go160,0,none⟩) t219.length co24,.slice Ao28 t222.length co28,.slice none 0 0]) ?_ 2 _ rfl;(with_reducible repeat (first|refine bN ?_ _|refine bD ?_|refine bA ?_ _));refine blk_put (cs:=#[.slice (some ⟨go160,0,none⟩) t219.length co24,.slice none 0 0,.slice none 0 0]) ?_ 1 _ rfl;(with_reducible repeat (first|refine bN ?_ _|refine bD ?_|refine bA ?_ _));refine blk_put (cs:=#[.slice none 0 0,.slice none 0 0,.slice none 0 0]) ?_ 0 _ rfl;(with_reducible repeat (first|refine bN ?_ _|refine bD ?_|refine bA ?_ _));exact Bc.out) Try.underlying26 rfl (by kernel_rfl)) rfl ?_
      exact ⟨_,_,_,by first|rfl|(simp [errW_none,errW_some] <;> rfl)|(simp only [← hji134];first|rfl|(simp [errW_none,errW_some] <;> rfl))|(simp [*,errW_none,errW_some] <;> rfl),by (with_reducible repeat (first|apply rA|apply rN|apply rD));exact rM (rF (p:=⟨Be,2,none⟩) (rF (p:=⟨Be,1,none⟩) (rF (p:=⟨Be,0,none⟩) (rT Ba.out Bc.out (by decide)) (fun _ hk=>hk.2) (.slice (some ⟨go160,0,none⟩) t219.length co24)) (fun _ hk=>hk.2) (.slice Ao28 t222.length co28)) (fun _ hk=>hk.2) (.slice Ao29 t225.length co29)) (fun _ hk=>hk.1),by (with_reducible repeat (first|apply rA|apply rN|apply rD));exact rM (rF (p:=⟨Be,2,none⟩) (rF (p:=⟨Be,1,none⟩) (rF (p:=⟨Be,0,none⟩) (rT Bf.out Bc.out (by decide)) (fun _ hk=>hk.2) (.slice (some ⟨go160,0,none⟩) t219.length co24)) (fun _ hk=>hk.2) (.slice Ao28 t222.length co28)) (fun _ hk=>hk.2) (.slice Ao29 t225.length co29)) (fun _ hk=>hk.1.2),by (with_reducible repeat (first|apply rA|apply rN|apply rD));exact rM (rF (p:=⟨Be,2,none⟩) (rF (p:=⟨Be,1,none⟩) (rF (p:=⟨Be,0,none⟩) (rT Bg.out Bc.out (by decide)) (fun _ hk=>hk.2) (.slice (some ⟨go160,0,none⟩) t219.length co24)) (fun _ hk=>hk.2) (.slice Ao28 t222.length co28)) (fun _ hk=>hk.2) (.slice Ao29 t225.length co29)) (fun _ hk=>trivial),by repeat (first|(with_reducible first|exact HB.out|apply oA|apply pN|apply o1|refine bS ?_ Bj.out|refine bS ?_ Bk.out|refine bS ?_ Bp.out)|exact HB.out)⟩
     rw [if_pos c80] at H
     have c80b0:(a1 == 3)=true:=beq_iff_eq.mpr c80
     have c80b1:(a1 != 3)=false:=bne_eq_false_iff_eq.mpr c80
     clear c80
     by_cases c81:1<(t219.length:Int)
     rotate_left
     ·rw [if_neg c81] at H
      exact absurd H (by simp)
     rw [if_pos c81] at H
     have c81b0:decide (1<(t219.length:Int))=true:=decide_eq_true c81
     have c81b1:decide (1<t219.length)=true:=decide_eq_true (by omega)
     clear c81
     obtain ⟨y234,hy234⟩:∃ y_:List Bool,y_=(t219.set (1:Int).toNat false):=⟨_,rfl⟩
     replace H:(if 5<(t219.length:Int) then ((some (y234.set (5:Int).toNat false:List Bool)).bind fun y235=>(if 0≤(wrap64 (a1 - 1)) then (if (wrap64 (a1 - 1))<(l0_1.length:Int) then (if rdOf false l0_1 (wrap64 (a1 - 1))=true then (if (wrap64 (a1 - 1))<(t219.length:Int) then (some ((y235.set ((wrap64 (a1 - 1)):Int).toNat true),t222,t225,true)) else (none)) else ((impl_Sigs_does.f kj18 l0_0 l0_1 l0_2 a1).bind fun t238=>(if t238=1 then (some (y235,t222,t225,true)) else (if (wrap64 (a1 - 1))<(t219.length:Int) then (some ((y235.set ((wrap64 (a1 - 1)):Int).toNat true),t222,t225,true)) else (none))))) else (none)) else (none))) else (none))=some (r1,r2,r3,r4):=by first|(rw [hy234];with_reducible exact H)|(have H2_:=(Option.bind_some _ _).symm.trans H;rw [hy234];with_reducible exact H2_)|(have H2_:=(Option.bind_some _ _).symm.trans H;with_reducible exact H2_)|with_reducible exact H|(rw [hy234];exact H)|exact H
     have Ny234:=Am hy234
     clear hy234
     by_cases c83:5<(t219.length:Int)
     rotate_left
     ·rw [if_neg c83] at H
      exact absurd H (by simp)
     rw [if_pos c83] at H
     have c83b0:decide (5<(t219.length:Int))=true:=decide_eq_true c83
     have c83b1:decide (5<t219.length)=true:=decide_eq_true (by omega)
     clear c83
     obtain ⟨y235,hy235⟩:∃ y_:List Bool,y_=(y234.set (5:Int).toNat false):=⟨_,rfl⟩
     replace H:(if 0≤(wrap64 (a1 - 1)) then (if (wrap64 (a1 - 1))<(l0_1.length:Int) then (if rdOf false l0_1 (wrap64 (a1 - 1))=true then (if (wrap64 (a1 - 1))<(t219.length:Int) then (some ((y235.set ((wrap64 (a1 - 1)):Int).toNat true),t222,t225,true)) else (none)) else ((impl_Sigs_does.f kj18 l0_0 l0_1 l0_2 a1).bind fun t238=>(if t238=1 then (some (y235,t222,t225,true)) else (if (wrap64 (a1 - 1))<(t219.length:Int) then (some ((y235.set ((wrap64 (a1 - 1)):Int).toNat true),t222,t225,true)) else (none))))) else (none)) else (none))=some (r1,r2,r3,r4):=by first|(rw [hy235];with_reducible exact H)|(have H2_:=(Option.bind_some _ _).symm.trans H;rw [hy235];with_reducible exact H2_)|(have H2_:=(Option.bind_some _ _).symm.trans H;with_reducible exact H2_)|with_reducible exact H|(rw [hy235];exact H)|exact H
     have Ny235:=Am hy235
     clear hy235
     obtain ⟨ji85,hji85⟩:∃ j_:Int,(wrap64 (a1 - 1))=j_:=⟨_,rfl⟩
     replace H:(if 0≤(ji85) then (if (ji85)<(l0_1.length:Int) then (if rdOf false l0_1 (ji85)=true then (if (ji85)<(t219.length:Int) then (some ((y235.set ((ji85):Int).toNat true),t222,t225,true)) else (none)) else ((impl_Sigs_does.f kj18 l0_0 l0_1 l0_2 a1).bind fun t238=>(if t238=1 then (some (y235,t222,t225,true)) else (if (ji85)<(t219.length:Int) then (some ((y235.set ((ji85):Int).toNat true),t222,t225,true)) else (none))))) else (none)) else (none))=some (r1,r2,r3,r4):=by first|(rw [hji85] at H;exact H)|(simp only [hji85] at H ⊢;exact H)
     have hji85w:(IntKind.i64.wrap (a1 - 1))=ji85:=(i64_w _).trans hji85
     by_cases c86:0≤(ji85)
     rotate_left
     ·rw [if_neg c86] at H
      exact absurd H (by simp)
     rw [if_pos c86] at H
     have c86b0:decide (0≤(ji85))=true:=decide_eq_true c86
     clear c86
     by_cases c87:(ji85)<(l0_1.length:Int)
     rotate_left
     ·rw [if_neg c87] at H
      exact absurd H (by simp)
     rw [if_pos c87] at H
     have c87b0:decide ((ji85)<(l0_1.length:Int))=true:=decide_eq_true c87
     clear c87
     obtain ⟨bq88,hbq88⟩:∃ b_:Bool,b_=(rdOf false l0_1 (ji85)):=⟨_,rfl⟩
     replace H:(if bq88=true then (if (ji85)<(t219.length:Int) then (some ((y235.set ((ji85):Int).toNat true),t222,t225,true)) else (none)) else ((impl_Sigs_does.f kj18 l0_0 l0_1 l0_2 a1).bind fun t238=>(if t238=1 then (some (y235,t222,t225,true)) else (if (ji85)<(t219.length:Int) then (some ((y235.set ((ji85):Int).toNat true),t222,t225,true)) else (none)))))=some (r1,r2,r3,r4):=by rw [← hbq88] at H;exact H
     have Nbq88:=Am hbq88
     clear hbq88
     by_cases c89:bq88=true
     ·subst c89
      have H1:(if (ji85)<(t219.length:Int) then (some ((y235.set ((ji85):Int).toNat true),t222,t225,true)) else (none))=some (r1,r2,r3,r4):=by rw [if_pos rfl] at H;exact H
      clear H
      have H:=H1
      clear H1
      by_cases c90:(ji85)<(t219.length:Int)
      rotate_left
      ·rw [if_neg c90] at H
       exact absurd H (by simp)
      rw [if_pos c90] at H
      have c90b0:decide ((ji85)<(t219.length:Int))=true:=decide_eq_true c90
      clear c90
      obtain ⟨y237,hy237⟩:∃ y_:List Bool,y_=(y235.set ((ji85):Int).toNat true):=⟨_,rfl⟩
      replace H:(some (y237,t222,t225,true))=some (r1,r2,r3,r4):=by first|(rw [hy237];with_reducible exact H)|(have H2_:=(Option.bind_some _ _).symm.trans H;rw [hy237];with_reducible exact H2_)|(have H2_:=(Option.bind_some _ _).symm.trans H;with_reducible exact H2_)|with_reducible exact H|(rw [hy237];exact H)|exact H
      have Ny237:=Am hy237
      clear hy237
      simp only [Option.some.injEq,Prod.mk.injEq] at H
      obtain ⟨rfl,rfl,rfl,rfl⟩:=H
      try go_wp2
      have n0_:=Am (rD Ba.out)
      have n1_:=Am (rD Bf.out)
      have n2_:=Am (rD Bg.out)
      have n3_:=Am (bD Bd.out)
      have n4_:=Am (bD Bc.out)
      have n5_:=Am (bD Bb.out)
      have n6_:=Am (o1 HB.out)
      clear Ba
      clear Bf
      clear Bg
      clear Bd
      clear Bc
      clear Bb
      clear HB
      have Ba:=n0_
      have Bf:=n1_
      have Bg:=n2_
      have Bd:=n3_
      have Bc:=n4_
      have Bb:=n5_
      have HB:=n6_
      clear n0_ n1_ n2_ n3_ n4_ n5_ n6_
      have p82:0≤(1:Int):=(by omega)
      have q82:(1:Int)<((t219.length:Int):Int):=of_decide_eq_true (by first|(with_reducible assumption)|assumption)
      have qi82:(1<t219.length)=True:=eq_true (by omega)
      obtain ⟨go82,co82,eo82,Bt,gl82,cl82,HG82⟩:=Kd.R_form Ba.out (by omega)
      (first|cases eo82|(injection eo82 with ea_ en_ ec_;(first|subst ea_|(injection ea_ with ea_;subst ea_));subst ec_;clear en_))
      have GB82:=Am Bt
      have GG82:=Am HG82
      clear Bt gl82 HG82
      obtain ⟨hx82_0,hf82_0⟩:=Kd.R_celln false Ba.out (1:Int) p82 q82
      (try rw [show ((1:Int)).toNat=1 from rfl] at hx82_0)
      (try simp only [Nat.reduceMul,Nat.zero_mul,Nat.zero_add,Nat.reduceAdd] at hx82_0)
      (try rw [show ((1:Int)).toNat=1 from rfl] at hf82_0)
      (try simp only [Nat.reduceMul,Nat.zero_mul,Nat.zero_add,Nat.reduceAdd] at hf82_0)
      replace p82:=eq_true p82
      replace q82:=eq_true q82
      have HP93:=Kd.R_putn Ba.out (1:Int) false
      rw [← Ny234.out] at HP93
      have HQ93:=Am HP93
      clear HP93
      have p84:0≤(5:Int):=(by omega)
      have q84:(5:Int)<((t219.length:Int):Int):=of_decide_eq_true (by first|(with_reducible assumption)|assumption)
      have qi84:(5<t219.length)=True:=eq_true (by omega)
      obtain ⟨hx84_0,hf84_0⟩:=Kd.R_celln false HQ93.out (5:Int) p84 q84
      (try rw [show ((5:Int)).toNat=5 from rfl] at hx84_0)
      (try simp only [Nat.reduceMul,Nat.zero_mul,Nat.zero_add,Nat.reduceAdd] at hx84_0)
      (try rw [show ((5:Int)).toNat=5 from rfl] at hf84_0)
      (try simp only [Nat.reduceMul,Nat.zero_mul,Nat.zero_add,Nat.reduceAdd] at hf84_0)
      replace p84:=eq_true p84
      replace q84:=eq_true q84
      have HP94:=Kd.R_putn HQ93.out (5:Int) false
      rw [← Ny235.out] at HP94
      have HQ94:=Am HP94
      clear HP94
      refine start_ (n:=8) (S:=fun w'=>w'.cell? ⟨Bh,0,none⟩=some (.slice (some ⟨go82,0,none⟩) t219.length co24)∧w'.cell? ⟨Bh,1,none⟩=some (.slice Ao28 t222.length co28)∧w'.cell? ⟨Bh,2,none⟩=some (.slice Ao29 t225.length co29)) (ds:=[7]) z34q0 (by kernel_rfl) rfl rfl ⟨(bC Bb.out 0).trans rfl,(bC Bb.out 1).trans rfl,(bC Bb.out 2).trans rfl⟩ (fun hHeld=>?_);refine with_st impl_SigsSend.tab9 impl_SigsSend.bits9 (fun _ _ _ _ _ h=>h) (fun HT_=>?_)
      generalize wc.drew=w92 at Ba Bf Bg Bd Bc Bb HB GG82 HQ93 HQ94 hf82_0 hf84_0 hx82_0 hx84_0 hHeld ⊢
      (try simp [go_sem] at hf82_0)
      (try simp [go_sem] at hf84_0)
      (try simp [go_sem] at hx82_0)
      (try simp [go_sem] at hx84_0)
      refine pS 0 27 z34q1 HT_ rfl rfl (by kernel_rfl) (by rfl) (by intro w';go_simp;with_reducible rfl) (by simp only [Act.put,lA,lZ,lS,iw,jw];rfl) ?_
      refine pS 2 29 z34q2 HT_ rfl rfl (by kernel_rfl) (by rfl) (by intro w';go_simp;with_reducible rfl) (by simp only [Act.put,lA,lZ,lS,iw,jw];rfl) ?_
      refine tS 1 28 z34q3 HT_ hHeld rfl rfl (by kernel_rfl) (by rfl) (by rintro w' ⟨s0,s1,s2⟩;go_simp;with_reducible rfl) (by simp only [Act.put,lA,lZ,lS,iw,jw];rfl) ?_
      refine pS 4 31 z34q4 HT_ rfl rfl (by kernel_rfl) (by rfl) (by intro w';go_simp;with_reducible rfl) (by simp only [Act.put,lA,lZ,lS,iw,jw];rfl) ?_
      refine tS 3 30 z34q5 HT_ hHeld rfl rfl (by kernel_rfl) (by rfl) (by rintro w' ⟨s0,s1,s2⟩;go_simp;with_reducible rfl) (by simp only [Act.put,lA,lZ,lS,iw,jw];rfl) ?_
      refine oU 5 none z34q6 HT_ rfl rfl (by kernel_rfl) (by decide) (fun K hK=>?_)
      refine skip_ (w1:=?_) (by rfl) rfl ?_ ?_
      rotate_left;(go_simp;rfl)
      refine hK.out _ _ ⟨((cell_far (fun h_=>Kd.R_ne Ba.out Bb.out (by decide) (congrArg some h_)) _).trans (hHeld.1)),((cell_far (fun h_=>Kd.R_ne Ba.out Bb.out (by decide) (congrArg some h_)) _).trans (hHeld.2.1)),((cell_far (fun h_=>Kd.R_ne Ba.out Bb.out (by decide) (congrArg some h_)) _).trans (hHeld.2.2))⟩ (fun hHeld=>?_)
      clear hK K
      refine pS 6 32 z34q7 HT_ rfl rfl (by kernel_rfl) (by rfl) (by intro w';go_simp;with_reducible rfl) (by simp only [Act.put,lA,lZ,lS,iw,jw];rfl) ?_
      refine last_ (i:=7) (N:=none) z34q8 rfl rfl (one_of HT_.out (by kernel_rfl)) (by decide) (fun K hK=>?_)
      refine skip_ (w1:=?_) (by rfl) rfl ?_ ?_
      rotate_left;(go_simp;rfl)
      refine hK.out _ _ ?_
      clear hK K
      refine done_ (done_of HT_.out (by kernel_rfl)) ?_
      have n0_:Aside0 (Kd.R Kd.bool 4 ((w92.setCell ⟨go82,1,none⟩ (.bool false)).setCell ⟨go82,5,none⟩ (.bool false)) w.heap.size (fun k_=>some k_≠(.slice Ao28 t222.length co28:Value).ownBlock) (.slice (some ⟨go82,0,none⟩) t219.length co24) y235):=⟨by (with_reducible repeat (first|apply rA|apply rN|apply rD));exact HQ94.out⟩
      have n1_:Aside0 (Kd.R Kd.bool 4 ((w92.setCell ⟨go82,1,none⟩ (.bool false)).setCell ⟨go82,5,none⟩ (.bool false)) w.heap.size (fun k_=>some k_≠(.slice (some ⟨go82,0,none⟩) t219.length co24:Value).ownBlock) (.slice Ao28 t222.length co28) t222):=⟨by (with_reducible repeat (first|apply rA|apply rN|apply rD));exact rM (rF (p:=⟨go82,5,none⟩) (rF (p:=⟨go82,1,none⟩) (rM Bf.out (fun k_ hk=>(⟨hk,fun e_=>hk (by rw [e_];rfl)⟩:_∧k_≠go82))) (fun _ hk=>hk.2) (.bool false)) (fun _ hk=>hk.2) (.bool false)) (fun _ hk=>hk.1)⟩
      have n2_:Aside0 (Kd.R (Kd.int .i64) 3 ((w92.setCell ⟨go82,1,none⟩ (.bool false)).setCell ⟨go82,5,none⟩ (.bool false)) w.heap.size (fun _=>True) (.slice Ao29 t225.length co29) t225):=⟨by (with_reducible repeat (first|apply rA|apply rN|apply rD));exact rM (rF (p:=⟨go82,5,none⟩) (rF (p:=⟨go82,1,none⟩) (rT Bg.out GG82.out (by decide)) (fun _ hk=>hk.2) (.bool false)) (fun _ hk=>hk.2) (.bool false)) (fun _ hk=>trivial)⟩
      have n3_:Aside0 (((w92.setCell ⟨go82,1,none⟩ (.bool false)).setCell ⟨go82,5,none⟩ (.bool false)).heap[Bi]?=some (.cells #[.slice A0_0 l0_0.length c0_0,.slice A0_1 l0_1.length c0_1,.slice A0_2 l0_2.length c0_2] 26 (0,0))):=⟨by (with_reducible repeat (first|refine bN ?_ _|refine bD ?_|refine bA ?_ _));refine blk_far ?_ (by have h_:=Kd.R_ne Ba.out Bd.out (by decide);intro e_;exact h_ (by rw [e_];rfl)) _;(with_reducible repeat (first|refine bN ?_ _|refine bD ?_|refine bA ?_ _));refine blk_far ?_ (by have h_:=Kd.R_ne Ba.out Bd.out (by decide);intro e_;exact h_ (by rw [e_];rfl)) _;(with_reducible repeat (first|refine bN ?_ _|refine bD ?_|refine bA ?_ _));exact Bd.out⟩
      have n4_:Aside0 (((w92.setCell ⟨go82,1,none⟩ (.bool false)).setCell ⟨go82,5,none⟩ (.bool false)).heap[Be]?=some (.cells #[.slice none 0 0,.slice none 0 0,.slice none 0 0] 26 (0,0))):=⟨by (with_reducible repeat (first|refine bN ?_ _|refine bD ?_|refine bA ?_ _));refine blk_far ?_ (by have h_:=Kd.R_ne Ba.out Bc.out (by decide);intro e_;exact h_ (by rw [e_];rfl)) _;(with_reducible repeat (first|refine bN ?_ _|refine bD ?_|refine bA ?_ _));refine blk_far ?_ (by have h_:=Kd.R_ne Ba.out Bc.out (by decide);intro e_;exact h_ (by rw [e_];rfl)) _;(with_reducible repeat (first|refine bN ?_ _|refine bD ?_|refine bA ?_ _));exact Bc.out⟩
      have n5_:Aside0 (((w92.setCell ⟨go82,1,none⟩ (.bool false)).setCell ⟨go82,5,none⟩ (.bool false)).heap[Bh]?=some (.cells #[.slice (some ⟨go82,0,none⟩) t219.length co24,.slice Ao28 t222.length co28,.slice Ao29 t225.length co29] 26 (0,0))):=⟨by (with_reducible repeat (first|refine bN ?_ _|refine bD ?_|refine bA ?_ _));refine blk_far ?_ (by have h_:=Kd.R_ne Ba.out Bb.out (by decide);intro e_;exact h_ (by rw [e_];rfl)) _;(with_reducible repeat (first|refine bN ?_ _|refine bD ?_|refine bA ?_ _));refine blk_far ?_ (by have h_:=Kd.R_ne Ba.out Bb.out (by decide);intro e_;exact h_ (by rw [e_];rfl)) _;(with_reducible repeat (first|refine bN ?_ _|refine bD ?_|refine bA ?_ _));exact Bb.out⟩
      have n6_:Aside0 (Below w.heap.size w ((w92.setCell ⟨go82,1,none⟩ (.bool false)).setCell ⟨go82,5,none⟩ (.bool false))):=⟨by repeat (first|(with_reducible first|exact HB.out|apply oA|apply pN|apply o1|refine bS ?_ GB82.out|refine bS ?_ GB82.out|refine bS ?_ Bj.out|refine bS ?_ Bk.out|refine bS ?_ Bp.out)|exact HB.out)⟩
      (try clear Ba)
      (try clear Bf)
      (try clear Bg)
      (try clear Bd)
      (try clear Bc)
      (try clear Bb)
      (try clear HB)
      generalize ((w92.setCell ⟨go82,1,none⟩ (.bool false)).setCell ⟨go82,5,none⟩ (.bool false))=w95 at n0_ n1_ n2_ n3_ n4_ n5_ n6_ ⊢
      have Ba:=n0_
      have Bf:=n1_
      have Bg:=n2_
      have Bd:=n3_
      have Bc:=n4_
      have Bb:=n5_
      have HB:=n6_
      clear n0_ n1_ n2_ n3_ n4_ n5_ n6_
      have Mz:=Bl.out
      have MA:=Bm.out
      have MB:=Bn.out
      have MC:=Bq.out
      have Ju:=cz0 Bd.out
      have Jv:=cz1 Bd.out
      have Jw:=cz2 Bd.out
      have Jx:=bF Bd.out 0
      have Jy:=bF Bd.out 1
      have Jz:=bF Bd.out 2
      have p236:0≤((ji85):Int):=of_decide_eq_true (by first|(with_reducible assumption)|assumption)
      have q236:(ji85)<(l0_1.length:Int):=of_decide_eq_true (by first|(with_reducible assumption)|assumption)
      obtain ⟨ad236,e236,hx236_0⟩:=Kd.at_bool HR0_1.out (ji85) p236 q236
      (try rw [← Nbq88.out] at hx236_0)
      cases e236
      replace hx236_0:=(bW HB hx236_0:)
      replace p236:=eq_true p236
      replace q236:=eq_true q236
      have MD:=Br.out
      have ME:=Bo.out
      have B4:=cz0 Bb.out
      have B5:=cz1 Bb.out
      have B6:=cz2 Bb.out
      have B7:=bF Bb.out 0
      have B8:=bF Bb.out 1
      have Da:=bF Bb.out 2
      have p91:0≤((ji85):Int):=of_decide_eq_true (by first|(with_reducible assumption)|assumption)
      have q91:((ji85):Int)<((t219.length:Int):Int):=of_decide_eq_true (by first|(with_reducible assumption)|assumption)
      obtain ⟨hx91_0,hf91_0⟩:=Kd.R_celln false Ba.out ((ji85):Int) p91 q91
      replace p91:=eq_true p91
      replace q91:=eq_true q91
      obtain ⟨hy101_,hz101_⟩:=Kd.R_celln false Ba.out ((ji85):Int) (of_decide_eq_true (by first|(with_reducible assumption)|assumption)) (of_decide_eq_true (by first|(with_reducible assumption)|assumption))
      have HP101:=Kd.R_putg Ba.out ((ji85):Int) true
      try go_wp2_with (first|((with_reducible refine gate_store (t:=4) (p:=49) rfl ?_);refine store_event (t:=4) (p:=49) (v:=?vo_w102) (w1:=(w95.setCell ⟨go82,((ji85):Int).toNat,none⟩ (.bool true))) ?hg ?ho ?hn ?hr ?_;(case ho=>rfl);(case hg=>rfl);(case hn=>rfl);(case hr=>first|(go_simp;done)|(go_simp;rfl));intro w102 hw;have hg:w95.grownBy w102 (some go82):=(by rw [hw];exact HP101.2);have hp_:Kd.R Kd.bool 4 w102 w.heap.size (fun k_=>some k_≠(.slice Ao28 t222.length co28:Value).ownBlock) (.slice (some ⟨go82,0,none⟩) t219.length co24) y237:=(by rw [hw,Ny237.out];exact HP101.1);clear HP101;have n0_:=Am (hp_);have n1_:=Am (Kd.R_after (v:=(.slice (some ⟨go82,0,none⟩) t219.length co24)) (v1:=(.slice (some ⟨go82,0,none⟩) t219.length co24)) (ok:=(fun _=>True)) (by (with_reducible repeat (first|apply rA|apply rN|apply rD));exact rM Bf.out (fun _ hk=>⟨trivial,hk⟩)) hg (.inl rfl));have n2_:=Am (Kd.R_over' (v:=(.slice (some ⟨go82,0,none⟩) t219.length co24)) (rL Bg.out) (Kd.R_typed Ba.out) (by decide) hg);have n3_:=Am (blk_grown (g:=Bi) (o:=.cells #[.slice A0_0 l0_0.length c0_0,.slice (some ad236) l0_1.length c0_1,.slice A0_2 l0_2.length c0_2] 26 (0,0)) (bL Bd.out) hg (Kd.R_ne Ba.out Bd.out (by decide)));have n4_:=Am (blk_grown (g:=Be) (o:=.cells #[.slice none 0 0,.slice none 0 0,.slice none 0 0] 26 (0,0)) (bL Bc.out) hg (Kd.R_ne Ba.out Bc.out (by decide)));have n5_:=Am (blk_grown (g:=Bh) (o:=.cells #[.slice (some ⟨go82,0,none⟩) t219.length co24,.slice Ao28 t222.length co28,.slice Ao29 t225.length co29] 26 (0,0)) (bL Bb.out) hg (Kd.R_ne Ba.out Bb.out (by decide)));have n6_:=Am ((by rw [hw];exact bS (HB.out) GB82.out:Below w.heap.size w w102));clear Ba Bf Bg Bd Bc Bb HB;revert n0_ n1_ n2_ n3_ n4_ n5_ n6_;intro Ba Bf Bg Bd Bc Bb HB;clear hg hw hp_;have Db:=cz0 Bb.out;have Dc:=cz1 Bb.out;have Dd:=cz2 Bb.out;have De:=bF Bb.out 0;have Df:=bF Bb.out 1;have Dg:=bF Bb.out 2;have Dh:=cz0 Bc.out;have Di:=cz1 Bc.out;have Dj:=cz2 Bc.out;have Dk:=bF Bc.out 0;have Dl:=bF Bc.out 1;have Dm:=bF Bc.out 2))
      refine bodyPost_ret (results_ct rfl _ _ Be 26 #[.slice (some ⟨go82,0,none⟩) t219.length co24,.slice Ao28 t222.length co28,.slice Ao29 t225.length co29] (0,0) _ rfl (by (with_reducible repeat (first|refine bN ?_ _|refine bD ?_|refine bA ?_ _));refine blk_put (cs:=#[.slice (some ⟨go82,0,none⟩) t219.length co24,.slice Ao28 t222.length co28,.slice none 0 0]) ?_ 2 _ rfl;(with_reducible repeat (first|refine bN ?_ _|refine bD ?_|refine bA ?_ _));refine blk_put (cs:=#[.slice (some ⟨go82,0,none⟩) t219.length co24,.slice none 0 0,.slice none 0 0]) ?_ 1 _ rfl;(with_reducible repeat (first|refine bN ?_ _|refine bD ?_|refine bA ?_ _));refine blk_put (cs:=#[.slice none 0 0,.slice none 0 0,.slice none 0 0]) ?_ 0 _ rfl;(with_reducible repeat (first|refine bN ?_ _|refine bD ?_|refine bA ?_ _));exact Bc.out) Try.underlying26 rfl (by kernel_rfl)) rfl ?_
      exact ⟨_,_,_,by first|rfl|(simp [errW_none,errW_some] <;> rfl)|(simp only [← hji85];first|rfl|(simp [errW_none,errW_some] <;> rfl))|(simp [*,errW_none,errW_some] <;> rfl),by (with_reducible repeat (first|apply rA|apply rN|apply rD));exact rM (rF (p:=⟨Be,2,none⟩) (rF (p:=⟨Be,1,none⟩) (rF (p:=⟨Be,0,none⟩) (rT Ba.out Bc.out (by decide)) (fun _ hk=>hk.2) (.slice (some ⟨go82,0,none⟩) t219.length co24)) (fun _ hk=>hk.2) (.slice Ao28 t222.length co28)) (fun _ hk=>hk.2) (.slice Ao29 t225.length co29)) (fun _ hk=>hk.1),by (with_reducible repeat (first|apply rA|apply rN|apply rD));exact rM (rF (p:=⟨Be,2,none⟩) (rF (p:=⟨Be,1,none⟩) (rF (p:=⟨Be,0,none⟩) (rT Bf.out Bc.out (by decide)) (fun _ hk=>hk.2) (.slice (some ⟨go82,0,none⟩) t219.length co24)) (fun _ hk=>hk.2) (.slice Ao28 t222.length co28)) (fun _ hk=>hk.2) (.slice Ao29 t225.length co29)) (fun _ hk=>hk.1.2),by (with_reducible repeat (first|apply rA|apply rN|apply rD));exact rM (rF (p:=⟨Be,2,none⟩) (rF (p:=⟨Be,1,none⟩) (rF (p:=⟨Be,0,none⟩) (rT Bg.out Bc.out (by decide)) (fun _ hk=>hk.2) (.slice (some ⟨go82,0,none⟩) t219.length co24)) (fun _ hk=>hk.2) (.slice Ao28 t222.length co28)) (fun _ hk=>hk.2) (.slice Ao29 t225.length co29)) (fun _ hk=>trivial),by repeat (first|(with_reducible first|exact HB.out|apply oA|apply pN|apply o1|refine bS ?_ Bj.out|refine bS ?_ Bk.out|refine bS ?_ Bp.out)|exact HB.out)⟩
     replace c89:=Bool.eq_false_iff.mpr c89
     subst c89
     have H1:((impl_Sigs_does.f kj18 l0_0 l0_1 l0_2 a1).bind fun t238=>(if t238=1 then (some (y235,t222,t225,true)) else (if (ji85)<(t219.length:Int) then (some ((y235.set ((ji85):Int).toNat true),t222,t225,true)) else (none))))=some (r1,r2,r3,r4):=by rw [if_neg (show ¬ (false=true) by decide)] at H;exact H
     clear H
     have H:=H1
     clear H1
     replace H:=oC H
     obtain ⟨t238,A1050,H⟩:=H
     replace H:(if t238=1 then (some (y235,t222,t225,true)) else (if (ji85)<(t219.length:Int) then (some ((y235.set ((ji85):Int).toNat true),t222,t225,true)) else (none)))=some (r1,r2,r3,r4):=H
     have A105:=Am A1050
     clear A1050
     by_cases c106:t238=1
     ·rw [if_pos c106] at H
      have c106b0:(t238 == 1)=true:=beq_iff_eq.mpr c106
      have c106b1:(t238 != 1)=false:=bne_eq_false_iff_eq.mpr c106
      clear c106
      simp only [Option.some.injEq,Prod.mk.injEq] at H
      obtain ⟨rfl,rfl,rfl,rfl⟩:=H
      try go_wp2
      have n0_:=Am (rD Ba.out)
      have n1_:=Am (rD Bf.out)
      have n2_:=Am (rD Bg.out)
      have n3_:=Am (bD Bd.out)
      have n4_:=Am (bD Bc.out)
      have n5_:=Am (bD Bb.out)
      have n6_:=Am (o1 HB.out)
      clear Ba
      clear Bf
      clear Bg
      clear Bd
      clear Bc
      clear Bb
      clear HB
      have Ba:=n0_
      have Bf:=n1_
      have Bg:=n2_
      have Bd:=n3_
      have Bc:=n4_
      have Bb:=n5_
      have HB:=n6_
      clear n0_ n1_ n2_ n3_ n4_ n5_ n6_
      have p82:0≤(1:Int):=(by omega)
      have q82:(1:Int)<((t219.length:Int):Int):=of_decide_eq_true (by first|(with_reducible assumption)|assumption)
      have qi82:(1<t219.length)=True:=eq_true (by omega)
      obtain ⟨go82,co82,eo82,Bt,gl82,cl82,HG82⟩:=Kd.R_form Ba.out (by omega)
      (first|cases eo82|(injection eo82 with ea_ en_ ec_;(first|subst ea_|(injection ea_ with ea_;subst ea_));subst ec_;clear en_))
      have GB82:=Am Bt
      have GG82:=Am HG82
      clear Bt gl82 HG82
      obtain ⟨hx82_0,hf82_0⟩:=Kd.R_celln false Ba.out (1:Int) p82 q82
      (try rw [show ((1:Int)).toNat=1 from rfl] at hx82_0)
      (try simp only [Nat.reduceMul,Nat.zero_mul,Nat.zero_add,Nat.reduceAdd] at hx82_0)
      (try rw [show ((1:Int)).toNat=1 from rfl] at hf82_0)
      (try simp only [Nat.reduceMul,Nat.zero_mul,Nat.zero_add,Nat.reduceAdd] at hf82_0)
      replace p82:=eq_true p82
      replace q82:=eq_true q82
      have HP108:=Kd.R_putn Ba.out (1:Int) false
      rw [← Ny234.out] at HP108
      have HQ108:=Am HP108
      clear HP108
      have p84:0≤(5:Int):=(by omega)
      have q84:(5:Int)<((t219.length:Int):Int):=of_decide_eq_true (by first|(with_reducible assumption)|assumption)
      have qi84:(5<t219.length)=True:=eq_true (by omega)
      obtain ⟨hx84_0,hf84_0⟩:=Kd.R_celln false HQ108.out (5:Int) p84 q84
      (try rw [show ((5:Int)).toNat=5 from rfl] at hx84_0)
      (try simp only [Nat.reduceMul,Nat.zero_mul,Nat.zero_add,Nat.reduceAdd] at hx84_0)
      (try rw [show ((5:Int)).toNat=5 from rfl] at hf84_0)
      (try simp only [Nat.reduceMul,Nat.zero_mul,Nat.zero_add,Nat.reduceAdd] at hf84_0)
      replace p84:=eq_true p84
      replace q84:=eq_true q84
      have HP109:=Kd.R_putn HQ108.out (5:Int) false
      rw [← Ny235.out] at HP109
      have HQ109:=Am HP109
      clear HP109
      refine start_ (n:=8) (S:=fun w'=>w'.cell? ⟨Bh,0,none⟩=some (.slice (some ⟨go82,0,none⟩) t219.length co24)∧w'.cell? ⟨Bh,1,none⟩=some (.slice Ao28 t222.length co28)∧w'.cell? ⟨Bh,2,none⟩=some (.slice Ao29 t225.length co29)) (ds:=[7]) z34q0 (by kernel_rfl) rfl rfl ⟨(bC Bb.out 0).trans rfl,(bC Bb.out 1).trans rfl,(bC Bb.out 2).trans rfl⟩ (fun hHeld=>?_);refine with_st impl_SigsSend.tab9 impl_SigsSend.bits9 (fun _ _ _ _ _ h=>h) (fun HT_=>?_)
      generalize wc.drew=w107 at Ba Bf Bg Bd Bc Bb HB GG82 HQ108 HQ109 hf82_0 hf84_0 hx82_0 hx84_0 hHeld ⊢
      (try simp [go_sem] at hf82_0)
      (try simp [go_sem] at hf84_0)
      (try simp [go_sem] at hx82_0)
      (try simp [go_sem] at hx84_0)
      refine pS 0 27 z34q1 HT_ rfl rfl (by kernel_rfl) (by rfl) (by intro w';go_simp;with_reducible rfl) (by simp only [Act.put,lA,lZ,lS,iw,jw];rfl) ?_
      refine pS 2 29 z34q2 HT_ rfl rfl (by kernel_rfl) (by rfl) (by intro w';go_simp;with_reducible rfl) (by simp only [Act.put,lA,lZ,lS,iw,jw];rfl) ?_
      refine tS 1 28 z34q3 HT_ hHeld rfl rfl (by kernel_rfl) (by rfl) (by rintro w' ⟨s0,s1,s2⟩;go_simp;with_reducible rfl) (by simp only [Act.put,lA,lZ,lS,iw,jw];rfl) ?_
      refine pS 4 31 z34q4 HT_ rfl rfl (by kernel_rfl) (by rfl) (by intro w';go_simp;with_reducible rfl) (by simp only [Act.put,lA,lZ,lS,iw,jw];rfl) ?_
      refine tS 3 30 z34q5 HT_ hHeld rfl rfl (by kernel_rfl) (by rfl) (by rintro w' ⟨s0,s1,s2⟩;go_simp;with_reducible rfl) (by simp only [Act.put,lA,lZ,lS,iw,jw];rfl) ?_
      refine oU 5 none z34q6 HT_ rfl rfl (by kernel_rfl) (by decide) (fun K hK=>?_)
      refine skip_ (w1:=?_) (by rfl) rfl ?_ ?_
      rotate_left;(go_simp;rfl)
      refine hK.out _ _ ⟨((cell_far (fun h_=>Kd.R_ne Ba.out Bb.out (by decide) (congrArg some h_)) _).trans (hHeld.1)),((cell_far (fun h_=>Kd.R_ne Ba.out Bb.out (by decide) (congrArg some h_)) _).trans (hHeld.2.1)),((cell_far (fun h_=>Kd.R_ne Ba.out Bb.out (by decide) (congrArg some h_)) _).trans (hHeld.2.2))⟩ (fun hHeld=>?_)
      clear hK K
      refine pS 6 32 z34q7 HT_ rfl rfl (by kernel_rfl) (by rfl) (by intro w';go_simp;with_reducible rfl) (by simp only [Act.put,lA,lZ,lS,iw,jw];rfl) ?_
      refine last_ (i:=7) (N:=none) z34q8 rfl rfl (one_of HT_.out (by kernel_rfl)) (by decide) (fun K hK=>?_)
      refine skip_ (w1:=?_) (by rfl) rfl ?_ ?_
      rotate_left;(go_simp;rfl)
      refine hK.out _ _ ?_
      clear hK K
      refine done_ (done_of HT_.out (by kernel_rfl)) ?_
      have n0_:Aside0 (Kd.R Kd.bool 4 ((w107.setCell ⟨go82,1,none⟩ (.bool false)).setCell ⟨go82,5,none⟩ (.bool false)) w.heap.size (fun k_=>some k_≠(.slice Ao28 t222.length co28:Value).ownBlock) (.slice (some ⟨go82,0,none⟩) t219.length co24) y235):=⟨by (with_reducible repeat (first|apply rA|apply rN|apply rD));exact HQ109.out⟩
      have n1_:Aside0 (Kd.R Kd.bool 4 ((w107.setCell ⟨go82,1,none⟩ (.bool false)).setCell ⟨go82,5,none⟩ (.bool false)) w.heap.size (fun k_=>some k_≠(.slice (some ⟨go82,0,none⟩) t219.length co24:Value).ownBlock) (.slice Ao28 t222.length co28) t222):=⟨by (with_reducible repeat (first|apply rA|apply rN|apply rD));exact rM (rF (p:=⟨go82,5,none⟩) (rF (p:=⟨go82,1,none⟩) (rM Bf.out (fun k_ hk=>(⟨hk,fun e_=>hk (by rw [e_];rfl)⟩:_∧k_≠go82))) (fun _ hk=>hk.2) (.bool false)) (fun _ hk=>hk.2) (.bool false)) (fun _ hk=>hk.1)⟩
      have n2_:Aside0 (Kd.R (Kd.int .i64) 3 ((w107.setCell ⟨go82,1,none⟩ (.bool false)).setCell ⟨go82,5,none⟩ (.bool false)) w.heap.size (fun _=>True) (.slice Ao29 t225.length co29) t225):=⟨by (with_reducible repeat (first|apply rA|apply rN|apply rD));exact rM (rF (p:=⟨go82,5,none⟩) (rF (p:=⟨go82,1,none⟩) (rT Bg.out GG82.out (by decide)) (fun _ hk=>hk.2) (.bool false)) (fun _ hk=>hk.2) (.bool false)) (fun _ hk=>trivial)⟩
      have n3_:Aside0 (((w107.setCell ⟨go82,1,none⟩ (.bool false)).setCell ⟨go82,5,none⟩ (.bool false)).heap[Bi]?=some (.cells #[.slice A0_0 l0_0.length c0_0,.slice A0_1 l0_1.length c0_1,.slice A0_2 l0_2.length c0_2] 26 (0,0))):=⟨by (with_reducible repeat (first|refine bN ?_ _|refine bD ?_|refine bA ?_ _));refine blk_far ?_ (by have h_:=Kd.R_ne Ba.out Bd.out (by decide);intro e_;exact h_ (by rw [e_];rfl)) _;(with_reducible repeat (first|refine bN ?_ _|refine bD ?_|refine bA ?_ _));refine blk_far ?_ (by have h_:=Kd.R_ne Ba.out Bd.out (by decide);intro e_;exact h_ (by rw [e_];rfl)) _;(with_reducible repeat (first|refine bN ?_ _|refine bD ?_|refine bA ?_ _));exact Bd.out⟩
      have n4_:Aside0 (((w107.setCell ⟨go82,1,none⟩ (.bool false)).setCell ⟨go82,5,none⟩ (.bool false)).heap[Be]?=some (.cells #[.slice none 0 0,.slice none 0 0,.slice none 0 0] 26 (0,0))):=⟨by (with_reducible repeat (first|refine bN ?_ _|refine bD ?_|refine bA ?_ _));refine blk_far ?_ (by have h_:=Kd.R_ne Ba.out Bc.out (by decide);intro e_;exact h_ (by rw [e_];rfl)) _;(with_reducible repeat (first|refine bN ?_ _|refine bD ?_|refine bA ?_ _));refine blk_far ?_ (by have h_:=Kd.R_ne Ba.out Bc.out (by decide);intro e_;exact h_ (by rw [e_];rfl)) _;(with_reducible repeat (first|refine bN ?_ _|refine bD ?_|refine bA ?_ _));exact Bc.out⟩
      have n5_:Aside0 (((w107.setCell ⟨go82,1,none⟩ (.bool false)).setCell ⟨go82,5,none⟩ (.bool false)).heap[Bh]?=some (.cells #[.slice (some ⟨go82,0,none⟩) t219.length co24,.slice Ao28 t222.length co28,.slice Ao29 t225.length co29] 26 (0,0))):=⟨by (with_reducible repeat (first|refine bN ?_ _|refine bD ?_|refine bA ?_ _));refine blk_far ?_ (by have h_:=Kd.R_ne Ba.out Bb.out (by decide);intro e_;exact h_ (by rw [e_];rfl)) _;(with_reducible repeat (first|refine bN ?_ _|refine bD ?_|refine bA ?_ _));refine blk_far ?_ (by have h_:=Kd.R_ne Ba.out Bb.out (by decide);intro e_;exact h_ (by rw [e_];rfl)) _;(with_reducible repeat (first|refine bN ?_ _|refine bD ?_|refine bA ?_ _));exact Bb.out⟩
      have n6_:Aside0 (Below w.heap.size w ((w107.setCell ⟨go82,1,none⟩ (.bool false)).setCell ⟨go82,5,none⟩ (.bool false))):=⟨by repeat (first|(with_reducible first|exact HB.out|apply oA|apply pN|apply o1|refine bS ?_ GB82.out|refine bS ?_ GB82.out|refine bS ?_ Bj.out|refine bS ?_ Bk.out|refine bS ?_ Bp.out)|exact HB.out)⟩
      (try clear Ba)
      (try clear Bf)
      (try clear Bg)
      (try clear Bd)
      (try clear Bc)
      (try clear Bb)
      (try clear HB)
      generalize ((w107.setCell ⟨go82,1,none⟩ (.bool false)).setCell ⟨go82,5,none⟩ (.bool false))=w110 at n0_ n1_ n2_ n3_ n4_ n5_ n6_ ⊢
      have Ba:=n0_
      have Bf:=n1_
      have Bg:=n2_
      have Bd:=n3_
      have Bc:=n4_
      have Bb:=n5_
      have HB:=n6_
      clear n0_ n1_ n2_ n3_ n4_ n5_ n6_
      have JA:=Bl.out
      have JB:=Bm.out
      have JC:=Bn.out
      have JD:=Bq.out
      have Dn:=cz0 Bd.out
      have Do:=cz1 Bd.out
      have Dp:=cz2 Bd.out
      have Dq:=bF Bd.out 0
      have Dr:=bF Bd.out 1
      have Ds:=bF Bd.out 2
      have p236:0≤((ji85):Int):=of_decide_eq_true (by first|(with_reducible assumption)|assumption)
      have q236:(ji85)<(l0_1.length:Int):=of_decide_eq_true (by first|(with_reducible assumption)|assumption)
      obtain ⟨ad236,e236,hx236_0⟩:=Kd.at_bool HR0_1.out (ji85) p236 q236
      (try rw [← Nbq88.out] at hx236_0)
      cases e236
      replace hx236_0:=(bW HB hx236_0:)
      replace p236:=eq_true p236
      replace q236:=eq_true q236
      try go_wp2_with (first|(go_at_call 40;(with_reducible refine (impl_Sigs_does.calls kj18 _ _ l0_0 _ _ l0_1 _ _ l0_2 a1 t238 _ ?side1 ?side2 ?side3 ?side4 ?side5 ?side6 A105.out).mono ?_);(case side1=>repeat (first|exact (cB HR0_0.out HB.out)|(with_reducible refine cA ?_ _)|(with_reducible refine cN ?_ _)|(with_reducible refine cD ?_)));(case side2=>exact HC0_0.out);(case side3=>repeat (first|exact (cB HR0_1.out HB.out)|(with_reducible refine cA ?_ _)|(with_reducible refine cN ?_ _)|(with_reducible refine cD ?_)));(case side4=>exact HC0_1.out);(case side5=>repeat (first|exact (cB HR0_2.out HB.out)|(with_reducible refine cA ?_ _)|(with_reducible refine cN ?_ _)|(with_reducible refine cD ?_)));(case side6=>exact HC0_2.out);rintro e w114 ⟨rfl,hb⟩;have n0_:=Am (rB (rL Ba.out) hb);have n1_:=Am (rB (rL Bf.out) hb);have n2_:=Am (rB (rL Bg.out) hb);have n3_:=Am (bX Bd.out hb);have n4_:=Am (bX Bc.out hb);have n5_:=Am (bX Bb.out hb);have n6_:=Am (bP (by repeat (first|(with_reducible first|exact HB.out|apply oA|apply pN|apply o1|refine bS ?_ Bj.out|refine bS ?_ Bk.out|refine bS ?_ Bp.out)|exact HB.out)) hb);clear Ba Bf Bg Bd Bc Bb HB;revert n0_ n1_ n2_ n3_ n4_ n5_ n6_;intro Ba Bf Bg Bd Bc Bb HB;(try clear hb);(try clear hb2);(try clear hk);(try clear hi);have JE:=Br.out;have JF:=Bo.out;have Dt:=cz0 Bb.out;have Du:=cz1 Bb.out;have Dv:=cz2 Bb.out;have Dw:=bF Bb.out 0;have Dx:=bF Bb.out 1;have Dy:=bF Bb.out 2;have Dz:=cz0 Bc.out;have DA:=cz1 Bc.out;have DB:=cz2 Bc.out;have DC:=bF Bc.out 0;have DD:=bF Bc.out 1;have DE:=bF Bc.out 2))
      refine bodyPost_ret (results_ct rfl _ _ Be 26 #[.slice (some ⟨go82,0,none⟩) t219.length co24,.slice Ao28 t222.length co28,.slice Ao29 t225.length co29] (0,0) _ rfl (by (with_reducible repeat (first|refine bN ?_ _|refine bD ?_|refine bA ?_ _));refine blk_put (cs:=#[.slice (some ⟨go82,0,none⟩) t219.length co24,.slice Ao28 t222.length co28,.slice none 0 0]) ?_ 2 _ rfl;(with_reducible repeat (first|refine bN ?_ _|refine bD ?_|refine bA ?_ _));refine blk_put (cs:=#[.slice (some ⟨go82,0,none⟩) t219.length co24,.slice none 0 0,.slice none 0 0]) ?_ 1 _ rfl;(with_reducible repeat (first|refine bN ?_ _|refine bD ?_|refine bA ?_ _));refine blk_put (cs:=#[.slice none 0 0,.slice none 0 0,.slice none 0 0]) ?_ 0 _ rfl;(with_reducible repeat (first|refine bN ?_ _|refine bD ?_|refine bA ?_ _));exact Bc.out) Try.underlying26 rfl (by kernel_rfl)) rfl ?_
      exact ⟨_,_,_,by first|rfl|(simp [errW_none,errW_some] <;> rfl)|(simp only [← hji85];first|rfl|(simp [errW_none,errW_some] <;> rfl))|(simp [*,errW_none,errW_some] <;> rfl),by (with_reducible repeat (first|apply rA|apply rN|apply rD));exact rM (rF (p:=⟨Be,2,none⟩) (rF (p:=⟨Be,1,none⟩) (rF (p:=⟨Be,0,none⟩) (rT Ba.out Bc.out (by decide)) (fun _ hk=>hk.2) (.slice (some ⟨go82,0,none⟩) t219.length co24)) (fun _ hk=>hk.2) (.slice Ao28 t222.length co28)) (fun _ hk=>hk.2) (.slice Ao29 t225.length co29)) (fun _ hk=>hk.1),by (with_reducible repeat (first|apply rA|apply rN|apply rD));exact rM (rF (p:=⟨Be,2,none⟩) (rF (p:=⟨Be,1,none⟩) (rF (p:=⟨Be,0,none⟩) (rT Bf.out Bc.out (by decide)) (fun _ hk=>hk.2) (.slice (some ⟨go82,0,none⟩) t219.length co24)) (fun _ hk=>hk.2) (.slice Ao28 t222.length co28)) (fun _ hk=>hk.2) (.slice Ao29 t225.length co29)) (fun _ hk=>hk.1),by (with_reducible repeat (first|apply rA|apply rN|apply rD));exact rM (rF (p:=⟨Be,2,none⟩) (rF (p:=⟨Be,1,none⟩) (rF (p:=⟨Be,0,none⟩) (rT Bg.out Bc.out (by decide)) (fun _ hk=>hk.2) (.slice (some ⟨go82,0,none⟩) t219.length co24)) (fun _ hk=>hk.2) (.slice Ao28 t222.length co28)) (fun _ hk=>hk.2) (.slice Ao29 t225.length co29)) (fun _ hk=>trivial),by repeat (first|(with_reducible first|exact HB.out|apply oA|apply pN|apply o1|refine bS ?_ Bj.out|refine bS ?_ Bk.out|refine bS ?_ Bp.out)|exact HB.out)⟩
     rw [if_neg c106] at H
     have c106b0:(t238 == 1)=false:=beq_eq_false_iff_ne.mpr c106
     have c106b1:(t238 != 1)=true:=bne_iff_ne.mpr c106
     by_cases c118:(ji85)<(t219.length:Int)
     rotate_left
     ·rw [if_neg c118] at H
      exact absurd H (by simp)
     rw [if_pos c118] at H
     have c118b0:decide ((ji85)<(t219.length:Int))=true:=decide_eq_true c118
     clear c118
     obtain ⟨y239,hy239⟩:∃ y_:List Bool,y_=(y235.set ((ji85):Int).toNat true):=⟨_,rfl⟩
     replace H:(some (y239,t222,t225,true))=some (r1,r2,r3,r4):=by first|(rw [hy239];with_reducible exact H)|(have H2_:=(Option.bind_some _ _).symm.trans H;rw [hy239];with_reducible exact H2_)|(have H2_:=(Option.bind_some _ _).symm.trans H;with_reducible exact H2_)|with_reducible exact H|(rw [hy239];exact H)|exact H
     have Ny239:=Am hy239
     clear hy239
     simp only [Option.some.injEq,Prod.mk.injEq] at H
     obtain ⟨rfl,rfl,rfl,rfl⟩:=H
     try go_wp2
     have n0_:=Am (rD Ba.out)
     have n1_:=Am (rD Bf.out)
     have n2_:=Am (rD Bg.out)
     have n3_:=Am (bD Bd.out)
     have n4_:=Am (bD Bc.out)
     have n5_:=Am (bD Bb.out)
     have n6_:=Am (o1 HB.out)
     clear Ba
     clear Bf
     clear Bg
     clear Bd
     clear Bc
     clear Bb
     clear HB
     have Ba:=n0_
     have Bf:=n1_
     have Bg:=n2_
     have Bd:=n3_
     have Bc:=n4_
     have Bb:=n5_
     have HB:=n6_
     clear n0_ n1_ n2_ n3_ n4_ n5_ n6_
     have p82:0≤(1:Int):=(by omega)
     have q82:(1:Int)<((t219.length:Int):Int):=of_decide_eq_true (by first|(with_reducible assumption)|assumption)
     have qi82:(1<t219.length)=True:=eq_true (by omega)
     obtain ⟨go82,co82,eo82,Bt,gl82,cl82,HG82⟩:=Kd.R_form Ba.out (by omega)
     (first|cases eo82|(injection eo82 with ea_ en_ ec_;(first|subst ea_|(injection ea_ with ea_;subst ea_));subst ec_;clear en_))
     have GB82:=Am Bt
     have GG82:=Am HG82
     clear Bt gl82 HG82
     obtain ⟨hx82_0,hf82_0⟩:=Kd.R_celln false Ba.out (1:Int) p82 q82
     (try rw [show ((1:Int)).toNat=1 from rfl] at hx82_0)
     (try simp only [Nat.reduceMul,Nat.zero_mul,Nat.zero_add,Nat.reduceAdd] at hx82_0)
     (try rw [show ((1:Int)).toNat=1 from rfl] at hf82_0)
     (try simp only [Nat.reduceMul,Nat.zero_mul,Nat.zero_add,Nat.reduceAdd] at hf82_0)
     replace p82:=eq_true p82
     replace q82:=eq_true q82
     have HP121:=Kd.R_putn Ba.out (1:Int) false
     rw [← Ny234.out] at HP121
     have HQ121:=Am HP121
     clear HP121
     have p84:0≤(5:Int):=(by omega)
     have q84:(5:Int)<((t219.length:Int):Int):=of_decide_eq_true (by first|(with_reducible assumption)|assumption)
     have qi84:(5<t219.length)=True:=eq_true (by omega)
     obtain ⟨hx84_0,hf84_0⟩:=Kd.R_celln false HQ121.out (5:Int) p84 q84
     (try rw [show ((5:Int)).toNat=5 from rfl] at hx84_0)
     (try simp only [Nat.reduceMul,Nat.zero_mul,Nat.zero_add,Nat.reduceAdd] at hx84_0)
     (try rw [show ((5:Int)).toNat=5 from rfl] at hf84_0)
     (try simp only [Nat.reduceMul,Nat.zero_mul,Nat.zero_add,Nat.reduceAdd] at hf84_0)
     replace p84:=eq_true p84
     replace q84:=eq_true q84
     have HP122:=Kd.R_putn HQ121.out (5:Int) false
     rw [← Ny235.out] at HP122
     have HQ122:=Am HP122
     clear HP122
     refine start_ (n:=8) (S:=fun w'=>w'.cell? ⟨Bh,0,none⟩=some (.slice (some ⟨go82,0,none⟩) t219.length co24)∧w'.cell? ⟨Bh,1,none⟩=some (.slice Ao28 t222.length co28)∧w'.cell? ⟨Bh,2,none⟩=some (.slice Ao29 t225.length co29)) (ds:=[7]) z34q0 (by kernel_rfl) rfl rfl ⟨(bC Bb.out 0).trans rfl,(bC Bb.out 1).trans rfl,(bC Bb.out 2).trans rfl⟩ (fun hHeld=>?_);refine with_st impl_SigsSend.tab9 impl_SigsSend.bits9 (fun _ _ _ _ _ h=>h) (fun HT_=>?_)
     generalize wc.drew=w120 at Ba Bf Bg Bd Bc Bb HB GG82 HQ121 HQ122 hf82_0 hf84_0 hx82_0 hx84_0 hHeld ⊢
     (try simp [go_sem] at hf82_0)
     (try simp [go_sem] at hf84_0)
     (try simp [go_sem] at hx82_0)
     (try simp [go_sem] at hx84_0)
     refine pS 0 27 z34q1 HT_ rfl rfl (by kernel_rfl) (by rfl) (by intro w';go_simp;with_reducible rfl) (by simp only [Act.put,lA,lZ,lS,iw,jw];rfl) ?_
     refine pS 2 29 z34q2 HT_ rfl rfl (by kernel_rfl) (by rfl) (by intro w';go_simp;with_reducible rfl) (by simp only [Act.put,lA,lZ,lS,iw,jw];rfl) ?_
     refine tS 1 28 z34q3 HT_ hHeld rfl rfl (by kernel_rfl) (by rfl) (by rintro w' ⟨s0,s1,s2⟩;go_simp;with_reducible rfl) (by simp only [Act.put,lA,lZ,lS,iw,jw];rfl) ?_
     refine pS 4 31 z34q4 HT_ rfl rfl (by kernel_rfl) (by rfl) (by intro w';go_simp;with_reducible rfl) (by simp only [Act.put,lA,lZ,lS,iw,jw];rfl) ?_
     refine tS 3 30 z34q5 HT_ hHeld rfl rfl (by kernel_rfl) (by rfl) (by rintro w' ⟨s0,s1,s2⟩;go_simp;with_reducible rfl) (by simp only [Act.put,lA,lZ,lS,iw,jw];rfl) ?_
     refine oU 5 none z34q6 HT_ rfl rfl (by kernel_rfl) (by decide) (fun K hK=>?_)
     refine skip_ (w1:=?_) (by rfl) rfl ?_ ?_
     rotate_left;(go_simp;rfl)
     refine hK.out _ _ ⟨((cell_far (fun h_=>Kd.R_ne Ba.out Bb.out (by decide) (congrArg some h_)) _).trans (hHeld.1)),((cell_far (fun h_=>Kd.R_ne Ba.out Bb.out (by decide) (congrArg some h_)) _).trans (hHeld.2.1)),((cell_far (fun h_=>Kd.R_ne Ba.out Bb.out (by decide) (congrArg some h_)) _).trans (hHeld.2.2))⟩ (fun hHeld=>?_)
     clear hK K
     refine pS 6 32 z34q7 HT_ rfl rfl (by kernel_rfl) (by rfl) (by intro w';go_simp;with_reducible rfl) (by simp only [Act.put,lA,lZ,lS,iw,jw];rfl) ?_
     refine last_ (i:=7) (N:=none) z34q8 rfl rfl (one_of HT_.out (by kernel_rfl)) (by decide) (fun K hK=>?_)
     refine skip_ (w1:=?_) (by rfl) rfl ?_ ?_
     rotate_left;(go_simp;rfl)
     refine hK.out _ _ ?_
     clear hK K
     refine done_ (done_of HT_.out (by kernel_rfl)) ?_
     have n0_:Aside0 (Kd.R Kd.bool 4 ((w120.setCell ⟨go82,1,none⟩ (.bool false)).setCell ⟨go82,5,none⟩ (.bool false)) w.heap.size (fun k_=>some k_≠(.slice Ao28 t222.length co28:Value).ownBlock) (.slice (some ⟨go82,0,none⟩) t219.length co24) y235):=⟨by (with_reducible repeat (first|apply rA|apply rN|apply rD));exact HQ122.out⟩
     have n1_:Aside0 (Kd.R Kd.bool 4 ((w120.setCell ⟨go82,1,none⟩ (.bool false)).setCell ⟨go82,5,none⟩ (.bool false)) w.heap.size (fun k_=>some k_≠(.slice (some ⟨go82,0,none⟩) t219.length co24:Value).ownBlock) (.slice Ao28 t222.length co28) t222):=⟨by (with_reducible repeat (first|apply rA|apply rN|apply rD));exact rM (rF (p:=⟨go82,5,none⟩) (rF (p:=⟨go82,1,none⟩) (rM Bf.out (fun k_ hk=>(⟨hk,fun e_=>hk (by rw [e_];rfl)⟩:_∧k_≠go82))) (fun _ hk=>hk.2) (.bool false)) (fun _ hk=>hk.2) (.bool false)) (fun _ hk=>hk.1)⟩
     have n2_:Aside0 (Kd.R (Kd.int .i64) 3 ((w120.setCell ⟨go82,1,none⟩ (.bool false)).setCell ⟨go82,5,none⟩ (.bool false)) w.heap.size (fun _=>True) (.slice Ao29 t225.length co29) t225):=⟨by (with_reducible repeat (first|apply rA|apply rN|apply rD));exact rM (rF (p:=⟨go82,5,none⟩) (rF (p:=⟨go82,1,none⟩) (rT Bg.out GG82.out (by decide)) (fun _ hk=>hk.2) (.bool false)) (fun _ hk=>hk.2) (.bool false)) (fun _ hk=>trivial)⟩
     have n3_:Aside0 (((w120.setCell ⟨go82,1,none⟩ (.bool false)).setCell ⟨go82,5,none⟩ (.bool false)).heap[Bi]?=some (.cells #[.slice A0_0 l0_0.length c0_0,.slice A0_1 l0_1.length c0_1,.slice A0_2 l0_2.length c0_2] 26 (0,0))):=⟨by (with_reducible repeat (first|refine bN ?_ _|refine bD ?_|refine bA ?_ _));refine blk_far ?_ (by have h_:=Kd.R_ne Ba.out Bd.out (by decide);intro e_;exact h_ (by rw [e_];rfl)) _;(with_reducible repeat (first|refine bN ?_ _|refine bD ?_|refine bA ?_ _));refine blk_far ?_ (by have h_:=Kd.R_ne Ba.out Bd.out (by decide);intro e_;exact h_ (by rw [e_];rfl)) _;(with_reducible repeat (first|refine bN ?_ _|refine bD ?_|refine bA ?_ _));exact Bd.out⟩
     have n4_:Aside0 (((w120.setCell ⟨go82,1,none⟩ (.bool false)).setCell ⟨go82,5,none⟩ (.bool false)).heap[Be]?=some (.cells #[.slice none 0 0,.slice none 0 0,.slice none 0 0] 26 (0,0))):=⟨by (with_reducible repeat (first|refine bN ?_ _|refine bD ?_|refine bA ?_ _));refine blk_far ?_ (by have h_:=Kd.R_ne Ba.out Bc.out (by decide);intro e_;exact h_ (by rw [e_];rfl)) _;(with_reducible repeat (first|refine bN ?_ _|refine bD ?_|refine bA ?_ _));refine blk_far ?_ (by have h_:=Kd.R_ne Ba.out Bc.out (by decide);intro e_;exact h_ (by rw [e_];rfl)) _;(with_reducible repeat (first|refine bN ?_ _|refine bD ?_|refine bA ?_ _));exact Bc.out⟩
     have n5_:Aside0 (((w120.setCell ⟨go82,1,none⟩ (.bool false)).setCell ⟨go82,5,none⟩ (.bool false)).heap[Bh]?=some (.cells #[.slice (some ⟨go82,0,none⟩) t219.length co24,.slice Ao28 t222.length co28,.slice Ao29 t225.length co29] 26 (0,0))):=⟨by (with_reducible repeat (first|refine bN ?_ _|refine bD ?_|refine bA ?_ _));refine blk_far ?_ (by have h_:=Kd.R_ne Ba.out Bb.out (by decide);intro e_;exact h_ (by rw [e_];rfl)) _;(with_reducible repeat (first|refine bN ?_ _|refine bD ?_|refine bA ?_ _));refine blk_far ?_ (by have h_:=Kd.R_ne Ba.out Bb.out (by decide);intro e_;exact h_ (by rw [e_];rfl)) _;(with_reducible repeat (first|refine bN ?_ _|refine bD ?_|refine bA ?_ _));exact Bb.out⟩
     have n6_:Aside0 (Below w.heap.size w ((w120.setCell ⟨go82,1,none⟩ (.bool false)).setCell ⟨go82,5,none⟩ (.bool false))):=⟨by repeat (first|(with_reducible first|exact HB.out|apply oA|apply pN|apply o1|refine bS ?_ GB82.out|refine bS ?_ GB82.out|refine bS ?_ Bj.out|refine bS ?_ Bk.out|refine bS ?_ Bp.out)|exact HB.out)⟩
     (try clear Ba)
     (try clear Bf)
     (try clear Bg)
     (try clear Bd)
     (try clear Bc)
     (try clear Bb)
     (try clear HB)
     generalize ((w120.setCell ⟨go82,1,none⟩ (.bool false)).setCell ⟨go82,5,none⟩ (.bool false))=w123 at n0_ n1_ n2_ n3_ n4_ n5_ n6_ ⊢
     have Ba:=n0_
     have Bf:=n1_
     have Bg:=n2_
     have Bd:=n3_
     have Bc:=n4_
     have Bb:=n5_
     have HB:=n6_
     clear n0_ n1_ n2_ n3_ n4_ n5_ n6_
     have JG:=Bl.out
     have JH:=Bm.out
     have JI:=Bn.out
     have JJ:=Bq.out
     have DF:=cz0 Bd.out
     have DG:=cz1 Bd.out
     have DH:=cz2 Bd.out
     have DI:=bF Bd.out 0
     have DJ:=bF Bd.out 1
     have DK:=bF Bd.out 2
     have p236:0≤((ji85):Int):=of_decide_eq_true (by first|(with_reducible assumption)|assumption)
     have q236:(ji85)<(l0_1.length:Int):=of_decide_eq_true (by first|(with_reducible assumption)|assumption)
     obtain ⟨ad236,e236,hx236_0⟩:=Kd.at_bool HR0_1.out (ji85) p236 q236
     (try rw [← Nbq88.out] at hx236_0)
     cases e236
     replace hx236_0:=(bW HB hx236_0:)
     replace p236:=eq_true p236
     replace q236:=eq_true q236
     try go_wp2_with (first|(go_at_call 40;(with_reducible refine (impl_Sigs_does.calls kj18 _ _ l0_0 _ _ l0_1 _ _ l0_2 a1 t238 _ ?side1 ?side2 ?side3 ?side4 ?side5 ?side6 A105.out).mono ?_);(case side1=>repeat (first|exact (cB HR0_0.out HB.out)|(with_reducible refine cA ?_ _)|(with_reducible refine cN ?_ _)|(with_reducible refine cD ?_)));(case side2=>exact HC0_0.out);(case side3=>repeat (first|exact (cB HR0_1.out HB.out)|(with_reducible refine cA ?_ _)|(with_reducible refine cN ?_ _)|(with_reducible refine cD ?_)));(case side4=>exact HC0_1.out);(case side5=>repeat (first|exact (cB HR0_2.out HB.out)|(with_reducible refine cA ?_ _)|(with_reducible refine cN ?_ _)|(with_reducible refine cD ?_)));(case side6=>exact HC0_2.out);rintro e w127 ⟨rfl,hb⟩;have n0_:=Am (rB (rL Ba.out) hb);have n1_:=Am (rB (rL Bf.out) hb);have n2_:=Am (rB (rL Bg.out) hb);have n3_:=Am (bX Bd.out hb);have n4_:=Am (bX Bc.out hb);have n5_:=Am (bX Bb.out hb);have n6_:=Am (bP (by repeat (first|(with_reducible first|exact HB.out|apply oA|apply pN|apply o1|refine bS ?_ Bj.out|refine bS ?_ Bk.out|refine bS ?_ Bp.out)|exact HB.out)) hb);clear Ba Bf Bg Bd Bc Bb HB;revert n0_ n1_ n2_ n3_ n4_ n5_ n6_;intro Ba Bf Bg Bd Bc Bb HB;(try clear hb);(try clear hb2);(try clear hk);(try clear hi);have JK:=Br.out;have JL:=Bo.out;have DL:=cz0 Bb.out;have DM:=cz1 Bb.out;have DN:=cz2 Bb.out;have DO:=bF Bb.out 0;have DP:=bF Bb.out 1;have DQ:=bF Bb.out 2;have p119:0≤((ji85):Int):=of_decide_eq_true (by first|(with_reducible assumption)|assumption);have q119:((ji85):Int)<((t219.length:Int):Int):=of_decide_eq_true (by first|(with_reducible assumption)|assumption);obtain ⟨hx119_0,hf119_0⟩:=Kd.R_celln false Ba.out ((ji85):Int) p119 q119;replace p119:=eq_true p119;replace q119:=eq_true q119;obtain ⟨hy130_,hz130_⟩:=Kd.R_celln false Ba.out ((ji85):Int) (of_decide_eq_true (by first|(with_reducible assumption)|assumption)) (of_decide_eq_true (by first|(with_reducible assumption)|assumption));have HP130:=Kd.R_putg Ba.out ((ji85):Int) true)|((with_reducible refine gate_store (t:=4) (p:=49) rfl ?_);refine store_event (t:=4) (p:=49) (v:=?vo_w131) (w1:=(w127.setCell ⟨go82,((ji85):Int).toNat,none⟩ (.bool true))) ?hg ?ho ?hn ?hr ?_;(case ho=>rfl);(case hg=>rfl);(case hn=>rfl);(case hr=>first|(go_simp;done)|(go_simp;rfl));intro w131 hw;have hg:w127.grownBy w131 (some go82):=(by rw [hw];exact HP130.2);have hp_:Kd.R Kd.bool 4 w131 w.heap.size (fun k_=>some k_≠(.slice Ao28 t222.length co28:Value).ownBlock) (.slice (some ⟨go82,0,none⟩) t219.length co24) y239:=(by rw [hw,Ny239.out];exact HP130.1);clear HP130;have n0_:=Am (hp_);have n1_:=Am (Kd.R_after (v:=(.slice (some ⟨go82,0,none⟩) t219.length co24)) (v1:=(.slice (some ⟨go82,0,none⟩) t219.length co24)) (ok:=(fun _=>True)) (by (with_reducible repeat (first|apply rA|apply rN|apply rD));exact rM Bf.out (fun _ hk=>⟨trivial,hk⟩)) hg (.inl rfl));have n2_:=Am (Kd.R_over' (v:=(.slice (some ⟨go82,0,none⟩) t219.length co24)) (rL Bg.out) (Kd.R_typed Ba.out) (by decide) hg);have n3_:=Am (blk_grown (g:=Bi) (o:=.cells #[.slice A0_0 l0_0.length c0_0,.slice (some ad236) l0_1.length c0_1,.slice A0_2 l0_2.length c0_2] 26 (0,0)) (bL Bd.out) hg (Kd.R_ne Ba.out Bd.out (by decide)));have n4_:=Am (blk_grown (g:=Be) (o:=.cells #[.slice none 0 0,.slice none 0 0,.slice none 0 0] 26 (0,0)) (bL Bc.out) hg (Kd.R_ne Ba.out Bc.out (by decide)));have n5_:=Am (blk_grown (g:=Bh) (o:=.cells #[.slice (some ⟨go82,0,none⟩) t219.length co24,.slice Ao28 t222.length co28,.slice Ao29 t225.length co29] 26 (0,0)) (bL Bb.out) hg (Kd.R_ne Ba.out Bb.out (by decide)));have n6_:=Am ((by rw [hw];exact bS (HB.out) GB82.out:Below w.heap.size w w131));clear Ba Bf Bg Bd Bc Bb HB;revert n0_ n1_ n2_ n3_ n4_ n5_ n6_;intro Ba Bf Bg Bd Bc Bb HB;clear hg hw hp_;have DR:=cz0 Bb.out;have DS:=cz1 Bb.out;have DT:=cz2 Bb.out;have DU:=bF Bb.out 0;have DV:=bF Bb.out 1;have DW:=bF Bb.out 2;have DX:=cz0 Bc.out;have DY:=cz1 Bc.out;have DZ:=cz2 Bc.out;have D0:=bF Bc.out 0;have D1:=bF Bc.out 1;have D2:=bF Bc.out 2))
     refine bodyPost_ret (results_ct rfl _ _ Be 26 #[.slice (some ⟨go82,0,none⟩) t219.length co24,.slice Ao28 t222.length co28,.slice Ao29 t225.length co29] (0,0) _ rfl (by (with_reducible repeat (first|refine bN ?_ _|refine bD ?_|refine bA ?_ _));refine blk_put (cs:=#[.slice (some ⟨go82,0,none⟩) t219.length co24,.slice Ao28 t222.length co28,.slice none 0 0]) ?_ 2 _ rfl;(with_reducible repeat (first|refine bN ?_ _|refine bD ?_|refine bA ?_ _));refine blk_put (cs:=#[.slice (some ⟨go82,0,none⟩) t219.length co24,.slice none 0 0,.slice none 0 0]) ?_ 1 _ rfl;(with_reducible repeat (first|refine bN ?_ _|refine bD ?_|refine bA ?_ _));refine blk_put (cs:=#[.slice none 0 0,.slice none 0 0,.slice none 0 0]) ?_ 0 _ rfl;(with_reducible repeat (first|refine bN ?_ _|refine bD ?_|refine bA ?_ _));exact Bc.out) Try.underlying26 rfl (by kernel_rfl)) rfl ?_
     exact ⟨_,_,_,by first|rfl|(simp [errW_none,errW_some] <;> rfl)|(simp only [← hji85];first|rfl|(simp [errW_none,errW_some] <;> rfl))|(simp [*,errW_none,errW_some] <;> rfl),by (with_reducible repeat (first|apply rA|apply rN|apply rD));exact rM (rF (p:=⟨Be,2,none⟩) (rF (p:=⟨Be,1,none⟩) (rF (p:=⟨Be,0,none⟩) (rT Ba.out Bc.out (by decide)) (fun _ hk=>hk.2) (.slice (some ⟨go82,0,none⟩) t219.length co24)) (fun _ hk=>hk.2) (.slice Ao28 t222.length co28)) (fun _ hk=>hk.2) (.slice Ao29 t225.length co29)) (fun _ hk=>hk.1),by (with_reducible repeat (first|apply rA|apply rN|apply rD));exact rM (rF (p:=⟨Be,2,none⟩) (rF (p:=⟨Be,1,none⟩) (rF (p:=⟨Be,0,none⟩) (rT Bf.out Bc.out (by decide)) (fun _ hk=>hk.2) (.slice (some ⟨go82,0,none⟩) t219.length co24)) (fun _ hk=>hk.2) (.slice Ao28 t222.length co28)) (fun _ hk=>hk.2) (.slice Ao29 t225.length co29)) (fun _ hk=>hk.1.2),by (with_reducible repeat (first|apply rA|apply rN|apply rD));exact rM (rF (p:=⟨Be,2,none⟩) (rF (p:=⟨Be,1,none⟩) (rF (p:=⟨Be,0,none⟩) (rT Bg.out Bc.out (by decide)) (fun _ hk=>hk.2) (.slice (some ⟨go82,0,none⟩) t219.length co24)) (fun _ hk=>hk.2) (.slice Ao28 t222.length co28)) (fun _ hk=>hk.2) (.slice Ao29 t225.length co29)) (fun _ hk=>trivial),by repeat (first|(with_reducible first|exact HB.out|apply oA|apply pN|apply o1|refine bS ?_ Bj.out|refine bS ?_ Bk.out|refine bS ?_ Bp.out)|exact HB.out)⟩
end Go.Proofs.Ytiifanjjohophaa.PFnSigsSend
