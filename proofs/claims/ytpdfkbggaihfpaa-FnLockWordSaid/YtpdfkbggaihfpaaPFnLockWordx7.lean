/- Proved here, without a condition beyond those that each theorem states: what the Go functions named below do is what the plain functions of the same names say. Written by xprint.py, a program of this session. -/
import Derived.Test.YtpdfkbggaihfpaaPFnLockWordx0
import Derived.Test.YtpdfkbggaihfpaaPFnLockWordx3
import Derived.Test.YtpdfkbggaihfpaaPFnLockWordx6
namespace Go.Proofs.Ytpdfkbggaihfpaa.PFnLockWord
open Go.RowKit Go.Proofs.YtpdfkbggaihfpaaW.PrintWords Go.Proofs.YtpdfkbggaihfpaaW.PrintLast Go.Proofs.YtpdfkbggaihfpaaW.PrintMore
attribute [local go_sem] max2_int min2_int max_two min_two max_three min_three max_four min_four   -- for this text's walks alone
set_option linter.unusedVariables false
set_option linter.unusedSimpArgs false

attribute [local go_sem ↓] isSome_setCell_
/-! ### impl_LockOk: function 60 -/
mutual
def impl_LockOk.j0 : Nat → Bool → Int → List (S57) → List Int → Option (Bool)
|0, _, _, _, _ => none
|k + 1, x16, x145000, x145001, x145002 => if x16 = true then (some false) else (impl_LockOk.l0 k 0 x145001 (x145001.length : Int) 0 x145000 x145001 x145002)
def impl_LockOk.l0 : Nat → Int → List (S57) → Int → Int → Int → List (S57) → List Int → Option (Bool)
|0, _, _, _, _, _, _, _ => none
|k + 1, x3, x18, x19, x20, x145000, x145001, x145002 => if x20 < x19 then (if 0 ≤ x20 then (if x20 < (x18.length : Int) then ((impl_in.f ((rd_T57 x18 x20).f0) 0 6).bind fun t149 => (if t149 = true then ((impl_in.f ((rd_T57 x18 x20).f1) 0 2).bind fun t150 => (if t150 = true then (if ((rd_T57 x18 x20).f1) > 0 then (if ((rd_T57 x18 x20).f0) = 1 then ((impl_in.f ((rd_T57 x18 x20).f2) 0 3).bind fun t151 => (if t151 = true then (if ((rd_T57 x18 x20).f0) > 0 then (if ((rd_T57 x18 x20).f2) = 0 then (impl_LockOk.j2 k x3 x20 x18 x19 x20 true x145000 x145001 x145002 ((rd_T57 x18 x20).f0) ((rd_T57 x18 x20).f1) ((rd_T57 x18 x20).f2) ((rd_T57 x18 x20).f3)) else (if (rd_T57 x18 x20).f3 = true then (impl_LockOk.j2 k x3 x20 x18 x19 x20 (((rd_T57 x18 x20).f0) != 3) x145000 x145001 x145002 ((rd_T57 x18 x20).f0) ((rd_T57 x18 x20).f1) ((rd_T57 x18 x20).f2) ((rd_T57 x18 x20).f3)) else (impl_LockOk.j2 k x3 x20 x18 x19 x20 false x145000 x145001 x145002 ((rd_T57 x18 x20).f0) ((rd_T57 x18 x20).f1) ((rd_T57 x18 x20).f2) ((rd_T57 x18 x20).f3)))) else (if (rd_T57 x18 x20).f3 = true then (impl_LockOk.j2 k x3 x20 x18 x19 x20 (((rd_T57 x18 x20).f0) != 3) x145000 x145001 x145002 ((rd_T57 x18 x20).f0) ((rd_T57 x18 x20).f1) ((rd_T57 x18 x20).f2) ((rd_T57 x18 x20).f3)) else (impl_LockOk.j2 k x3 x20 x18 x19 x20 false x145000 x145001 x145002 ((rd_T57 x18 x20).f0) ((rd_T57 x18 x20).f1) ((rd_T57 x18 x20).f2) ((rd_T57 x18 x20).f3)))) else (impl_LockOk.j2 k x3 x20 x18 x19 x20 true x145000 x145001 x145002 ((rd_T57 x18 x20).f0) ((rd_T57 x18 x20).f1) ((rd_T57 x18 x20).f2) ((rd_T57 x18 x20).f3)))) else (impl_LockOk.j2 k x3 x20 x18 x19 x20 true x145000 x145001 x145002 ((rd_T57 x18 x20).f0) ((rd_T57 x18 x20).f1) ((rd_T57 x18 x20).f2) ((rd_T57 x18 x20).f3))) else ((impl_in.f ((rd_T57 x18 x20).f2) 0 3).bind fun t152 => (if t152 = true then (if ((rd_T57 x18 x20).f0) > 0 then (if ((rd_T57 x18 x20).f2) = 0 then (impl_LockOk.j2 k x3 x20 x18 x19 x20 true x145000 x145001 x145002 ((rd_T57 x18 x20).f0) ((rd_T57 x18 x20).f1) ((rd_T57 x18 x20).f2) ((rd_T57 x18 x20).f3)) else (if (rd_T57 x18 x20).f3 = true then (impl_LockOk.j2 k x3 x20 x18 x19 x20 (((rd_T57 x18 x20).f0) != 3) x145000 x145001 x145002 ((rd_T57 x18 x20).f0) ((rd_T57 x18 x20).f1) ((rd_T57 x18 x20).f2) ((rd_T57 x18 x20).f3)) else (impl_LockOk.j2 k x3 x20 x18 x19 x20 false x145000 x145001 x145002 ((rd_T57 x18 x20).f0) ((rd_T57 x18 x20).f1) ((rd_T57 x18 x20).f2) ((rd_T57 x18 x20).f3)))) else (if (rd_T57 x18 x20).f3 = true then (impl_LockOk.j2 k x3 x20 x18 x19 x20 (((rd_T57 x18 x20).f0) != 3) x145000 x145001 x145002 ((rd_T57 x18 x20).f0) ((rd_T57 x18 x20).f1) ((rd_T57 x18 x20).f2) ((rd_T57 x18 x20).f3)) else (impl_LockOk.j2 k x3 x20 x18 x19 x20 false x145000 x145001 x145002 ((rd_T57 x18 x20).f0) ((rd_T57 x18 x20).f1) ((rd_T57 x18 x20).f2) ((rd_T57 x18 x20).f3)))) else (impl_LockOk.j2 k x3 x20 x18 x19 x20 true x145000 x145001 x145002 ((rd_T57 x18 x20).f0) ((rd_T57 x18 x20).f1) ((rd_T57 x18 x20).f2) ((rd_T57 x18 x20).f3))))) else (impl_LockOk.j2 k x3 x20 x18 x19 x20 true x145000 x145001 x145002 ((rd_T57 x18 x20).f0) ((rd_T57 x18 x20).f1) ((rd_T57 x18 x20).f2) ((rd_T57 x18 x20).f3)))) else (impl_LockOk.j2 k x3 x20 x18 x19 x20 true x145000 x145001 x145002 ((rd_T57 x18 x20).f0) ((rd_T57 x18 x20).f1) ((rd_T57 x18 x20).f2) ((rd_T57 x18 x20).f3)))) else (none)) else (none)) else (some (x3 == (x145002.length : Int)))
def impl_LockOk.j2 : Nat → Int → Int → List (S57) → Int → Int → Bool → Int → List (S57) → List Int → Int → Int → Int → Bool → Option (Bool)
|0, _, _, _, _, _, _, _, _, _, _, _, _, _ => none
|k + 1, x3, x4, x18, x19, x20, x69, x145000, x145001, x145002, x149000, x149001, x149002, x149003 => if x69 = true then (some false) else (if x149003 = true then ((slices_Contains_int_int.f k x145002 x4).bind fun t153 => (if (x149003 != t153) = true then (some false) else (impl_LockOk.l0 k (wrap64 (x3 + 1)) x18 x19 (wrap64 (x20 + 1)) x145000 x145001 x145002))) else ((slices_Contains_int_int.f k x145002 x4).bind fun t154 => (if (x149003 != t154) = true then (some false) else (impl_LockOk.l0 k x3 x18 x19 (wrap64 (x20 + 1)) x145000 x145001 x145002))))
end
def impl_LockOk.f (k : Nat) (a0_0 : Int) (l0_1 : List (S57)) (l0_2 : List Int) : Option (Bool) := (impl_in.f a0_0 0 2).bind fun t145 => (if t145 = true then ((impl_in.f (l0_1.length : Int) 1 4).bind fun t146 => (impl_LockOk.j0 k (!t146) a0_0 l0_1 l0_2)) else (impl_LockOk.j0 k true a0_0 l0_1 l0_2))
theorem impl_LockOk.mono_l : ∀ k, (∀ y0 y1 y2 y3, LeO (impl_LockOk.j0 k y0 y1 y2 y3) (impl_LockOk.j0 (k + 1) y0 y1 y2 y3)) ∧ (∀ y0 y1 y2 y3 y4 y5 y6, LeO (impl_LockOk.l0 k y0 y1 y2 y3 y4 y5 y6) (impl_LockOk.l0 (k + 1) y0 y1 y2 y3 y4 y5 y6)) ∧ (∀ y0 y1 y2 y3 y4 y5 y6 y7 y8 y9 y10 y11 y12, LeO (impl_LockOk.j2 k y0 y1 y2 y3 y4 y5 y6 y7 y8 y9 y10 y11 y12) (impl_LockOk.j2 (k + 1) y0 y1 y2 y3 y4 y5 y6 y7 y8 y9 y10 y11 y12))
|0 => ⟨fun _ _ _ _ r h => by simp [impl_LockOk.j0] at h, fun _ _ _ _ _ _ _ r h => by simp [impl_LockOk.l0] at h, fun _ _ _ _ _ _ _ _ _ _ _ _ _ r h => by simp [impl_LockOk.j2] at h⟩
|k + 1 => by
  obtain ⟨ih0, ih1, ih2⟩ := impl_LockOk.mono_l k
  refine ⟨?_, ?_, ?_⟩
  ·intro y0 y1 y2 y3
   unfold impl_LockOk.j0
   repeat' first
  |(with_reducible exact ih0 _ _ _ _)
  |(with_reducible exact ih1 _ _ _ _ _ _ _)
  |(with_reducible exact ih2 _ _ _ _ _ _ _ _ _ _ _ _ _)
  |(with_reducible exact slices_Contains_int_int.mono _ _ _)
  |(with_reducible exact LeO.refl _)
  |(with_reducible exact LeO.none _)
  |(with_reducible refine LeO.ite ?_ ?_)
  |(with_reducible refine LeO.bind ?_ (fun _ => ?_))
  |exact ih0 _ _ _ _
  |exact ih1 _ _ _ _ _ _ _
  |exact ih2 _ _ _ _ _ _ _ _ _ _ _ _ _
  |exact slices_Contains_int_int.mono _ _ _
  |exact LeO.none _
  |refine LeO.ite ?_ ?_
  |refine LeO.bind ?_ (fun _ => ?_)
  ·intro y0 y1 y2 y3 y4 y5 y6
   unfold impl_LockOk.l0
   repeat' first
  |(with_reducible exact ih0 _ _ _ _)
  |(with_reducible exact ih1 _ _ _ _ _ _ _)
  |(with_reducible exact ih2 _ _ _ _ _ _ _ _ _ _ _ _ _)
  |(with_reducible exact slices_Contains_int_int.mono _ _ _)
  |(with_reducible exact LeO.refl _)
  |(with_reducible exact LeO.none _)
  |(with_reducible refine LeO.ite ?_ ?_)
  |(with_reducible refine LeO.bind ?_ (fun _ => ?_))
  |exact ih0 _ _ _ _
  |exact ih1 _ _ _ _ _ _ _
  |exact ih2 _ _ _ _ _ _ _ _ _ _ _ _ _
  |exact slices_Contains_int_int.mono _ _ _
  |exact LeO.none _
  |refine LeO.ite ?_ ?_
  |refine LeO.bind ?_ (fun _ => ?_)
  ·intro y0 y1 y2 y3 y4 y5 y6 y7 y8 y9 y10 y11 y12
   unfold impl_LockOk.j2
   repeat' first
  |(with_reducible exact ih0 _ _ _ _)
  |(with_reducible exact ih1 _ _ _ _ _ _ _)
  |(with_reducible exact ih2 _ _ _ _ _ _ _ _ _ _ _ _ _)
  |(with_reducible exact slices_Contains_int_int.mono _ _ _)
  |(with_reducible exact LeO.refl _)
  |(with_reducible exact LeO.none _)
  |(with_reducible refine LeO.ite ?_ ?_)
  |(with_reducible refine LeO.bind ?_ (fun _ => ?_))
  |exact ih0 _ _ _ _
  |exact ih1 _ _ _ _ _ _ _
  |exact ih2 _ _ _ _ _ _ _ _ _ _ _ _ _
  |exact slices_Contains_int_int.mono _ _ _
  |exact LeO.none _
  |refine LeO.ite ?_ ?_
  |refine LeO.bind ?_ (fun _ => ?_)
theorem impl_LockOk.mono : ∀ a0 a1 a2 k, LeO (impl_LockOk.f k a0 a1 a2) (impl_LockOk.f (k + 1) a0 a1 a2) := by
 intro a0 a1 a2 k
 obtain ⟨ih0, ih1, ih2⟩ := impl_LockOk.mono_l k
 unfold impl_LockOk.f
 repeat' first
  |(with_reducible exact ih0 _ _ _ _)
  |(with_reducible exact ih1 _ _ _ _ _ _ _)
  |(with_reducible exact ih2 _ _ _ _ _ _ _ _ _ _ _ _ _)
  |(with_reducible exact slices_Contains_int_int.mono _ _ _)
  |(with_reducible exact LeO.refl _)
  |(with_reducible exact LeO.none _)
  |(with_reducible refine LeO.ite ?_ ?_)
  |(with_reducible refine LeO.bind ?_ (fun _ => ?_))
  |exact ih0 _ _ _ _
  |exact ih1 _ _ _ _ _ _ _
  |exact ih2 _ _ _ _ _ _ _ _ _ _ _ _ _
  |exact slices_Contains_int_int.mono _ _ _
  |exact LeO.none _
  |refine LeO.ite ?_ ?_
  |refine LeO.bind ?_ (fun _ => ?_)
set_option maxHeartbeats 2000000 in
set_option maxRecDepth 100000 in
theorem impl_LockOk.calls (k:Nat) (a0_0:Int) (A0_1:Option Addr) (c0_1:Nat) (l0_1:List (S57)) (A0_2:Option Addr) (c0_2:Nat) (l0_2:List Int) (r:Bool) (w:World) (hr0_1:Kd.C k57 w A0_1 l0_1.length l0_1) (hc0_1:l0_1.length≤c0_1) (hr0_2:Kd.C (Kd.int .i64) w A0_2 l0_2.length l0_2) (hc0_2:l0_2.length≤c0_2) (h:impl_LockOk.f k a0_0 l0_1 l0_2=some r) :
  Calls Try.prog 60 #[.agg #[.int .i64 a0_0,.slice A0_1 l0_1.length c0_1,.slice A0_2 l0_2.length c0_2]] w fun e w'=>e=.returned (.bool r)∧Below w.heap.size w w':=by
 have hu51:=Try.underlying51
 have hu57:=Try.underlying57
 have HR0_1:=Am hr0_1
 have HC0_1:=Am hc0_1
 clear hr0_1 hc0_1
 have HR0_2:=Am hr0_2
 have HC0_2:=Am hc0_2
 clear hr0_2 hc0_2
 have HB:=Am (bJ w.heap.size w)
 have H:((impl_in.f a0_0 0 2).bind fun t145=>(if t145=true then ((impl_in.f (l0_1.length:Int) 1 4).bind fun t146=>(impl_LockOk.j0 k (!t146) a0_0 l0_1 l0_2)) else (impl_LockOk.j0 k true a0_0 l0_1 l0_2)))=some r:=h
 clear h
 have HC2:=Am H
 clear H
 go_enter Try.func60,Try.ntmps60
 go_upto_region 1 with (first|((with_reducible refine gD (N:=1) rfl ?_);(try (refine gate_guard (by rfl) ?_;dsimp only));refine bI ?hg (N:=1) ?hd (cs:=#[.int .i64 a0_0,.slice A0_1 l0_1.length c0_1,.slice A0_2 l0_2.length c0_2]) (t:=51) ?hr ?_;(case hd=>rfl);(case hg=>rfl);(case hr=>first|(go_simp;done)|(go_simp;rfl));intro Be hg w3 hbox hb;have n0_:=Am (bP (by repeat (first|(with_reducible first|exact HB.out|apply oA|apply pN|apply o1)|exact HB.out)) hb);have n1_:=Am (hbox);have n2_:=Am ((by rw [hg];exact (bZ (by repeat (first|(with_reducible first|exact HB.out|apply oA|apply pN|apply o1)|exact HB.out))):w.heap.size≤Be));have n3_:=Am ((by rw [hg];exact (bZ (by repeat (first|(with_reducible first|exact HB.out|apply oA|apply pN|apply o1)|exact HB.out))):w.heap.size≤Be));clear HB;revert n0_ n1_ n2_ n3_;intro HB Bc BK Bg;clear hb hbox hg))
 repeat (go_quiet (first|((with_reducible refine gD (N:=1) rfl ?_);(try (refine gate_guard (by rfl) ?_;dsimp only));refine bI ?hg (N:=1) ?hd (cs:=#[.int .i64 a0_0,.slice A0_1 l0_1.length c0_1,.slice A0_2 l0_2.length c0_2]) (t:=51) ?hr ?_;(case hd=>rfl);(case hg=>rfl);(case hr=>first|(go_simp;done)|(go_simp;rfl));intro Be hg w3 hbox hb;have n0_:=Am (bP (by repeat (first|(with_reducible first|exact HB.out|apply oA|apply pN|apply o1)|exact HB.out)) hb);have n1_:=Am (hbox);have n2_:=Am ((by rw [hg];exact (bZ (by repeat (first|(with_reducible first|exact HB.out|apply oA|apply pN|apply o1)|exact HB.out))):w.heap.size≤Be));have n3_:=Am ((by rw [hg];exact (bZ (by repeat (first|(with_reducible first|exact HB.out|apply oA|apply pN|apply o1)|exact HB.out))):w.heap.size≤Be));clear HB;revert n0_ n1_ n2_ n3_;intro HB Bc BK Bg;clear hb hbox hg));go_upto_region 1 with (first|((with_reducible refine gD (N:=1) rfl ?_);(try (refine gate_guard (by rfl) ?_;dsimp only));refine bI ?hg (N:=1) ?hd (cs:=#[.int .i64 a0_0,.slice A0_1 l0_1.length c0_1,.slice A0_2 l0_2.length c0_2]) (t:=51) ?hr ?_;(case hd=>rfl);(case hg=>rfl);(case hr=>first|(go_simp;done)|(go_simp;rfl));intro Be hg w3 hbox hb;have n0_:=Am (bP (by repeat (first|(with_reducible first|exact HB.out|apply oA|apply pN|apply o1)|exact HB.out)) hb);have n1_:=Am (hbox);have n2_:=Am ((by rw [hg];exact (bZ (by repeat (first|(with_reducible first|exact HB.out|apply oA|apply pN|apply o1)|exact HB.out))):w.heap.size≤Be));have n3_:=Am ((by rw [hg];exact (bZ (by repeat (first|(with_reducible first|exact HB.out|apply oA|apply pN|apply o1)|exact HB.out))):w.heap.size≤Be));clear HB;revert n0_ n1_ n2_ n3_;intro HB Bc BK Bg;clear hb hbox hg)))
 (try simp only [Act.put,lA,lZ,lS])
 go_cut [16] (fun v16 wc=>∃ (kq:Nat) (x16_1:Bool),v16=.bool x16_1∧Aside0 (impl_LockOk.j0 kq x16_1 a0_0 l0_1 l0_2=some r)∧Aside0 (kq≤k)∧Aside0 (wc.heap[Be]?=some (.cells #[.int .i64 a0_0,(.slice A0_1 l0_1.length c0_1),(.slice A0_2 l0_2.length c0_2)] 51 (0,0)))∧Aside0 (Below w.heap.size w wc))
 case first =>
  have H:=HC2.out
  clear HC2
  replace H:=oC H
  obtain ⟨t145,A40,H⟩:=H
  replace H:(if t145=true then ((impl_in.f (l0_1.length:Int) 1 4).bind fun t146=>(impl_LockOk.j0 k (!t146) a0_0 l0_1 l0_2)) else (impl_LockOk.j0 k true a0_0 l0_1 l0_2))=some r:=H
  have A4:=Am A40
  clear A40
  by_cases c5:t145=true
  rotate_left
  ·replace c5:=Bool.eq_false_iff.mpr c5
   subst c5
   have H1:(impl_LockOk.j0 k true a0_0 l0_1 l0_2)=some r:=by rw [if_neg (show ¬ (false=true) by decide)] at H;exact H
   clear H
   have H:=H1
   clear H1
   have H':=Am H
   clear H
   have Bx:=cz0 Bc.out
   have By:=cz1 Bc.out
   have Bz:=cz2 Bc.out
   have BA:=bF Bc.out 0
   have BB:=bF Bc.out 1
   have BC:=bF Bc.out 2
   go_wp2_with (first|(go_at_call 48;(with_reducible refine (impl_in.calls a0_0 0 2 false _ A4.out).mono ?_);rintro e w' ⟨rfl,⟨nd,rfl⟩⟩;(try first|exact ⟨rfl,_,World.drewN_drewN _ _ _⟩|exact ⟨rfl,_,Eq.trans (World.drewN_drewN _ _ _) (congrArg (World.drewN _) (Nat.add_assoc _ _ _))⟩)))
   repeat (go_quiet (first|(go_at_call 48;(with_reducible refine (impl_in.calls a0_0 0 2 false _ A4.out).mono ?_);rintro e w' ⟨rfl,⟨nd,rfl⟩⟩;(try first|exact ⟨rfl,_,World.drewN_drewN _ _ _⟩|exact ⟨rfl,_,Eq.trans (World.drewN_drewN _ _ _) (congrArg (World.drewN _) (Nat.add_assoc _ _ _))⟩)));try go_wp2_with (first|(go_at_call 48;(with_reducible refine (impl_in.calls a0_0 0 2 false _ A4.out).mono ?_);rintro e w' ⟨rfl,⟨nd,rfl⟩⟩;(try first|exact ⟨rfl,_,World.drewN_drewN _ _ _⟩|exact ⟨rfl,_,Eq.trans (World.drewN_drewN _ _ _) (congrArg (World.drewN _) (Nat.add_assoc _ _ _))⟩))))
   go_meet
   case rel=>exact ⟨_,(true),(by first|rfl|(simp;done)|(simp [*];done)),H',⟨by first|omega|exact nR _⟩,⟨by (with_reducible repeat (first|refine bN ?_ _|refine bD ?_|refine bA ?_ _));exact Bc.out⟩,⟨by repeat (first|(with_reducible first|exact HB.out|apply oA|apply pN|apply o1|refine bS ?_ Bg.out)|exact HB.out)⟩⟩
  subst c5
  have H1:((impl_in.f (l0_1.length:Int) 1 4).bind fun t146=>(impl_LockOk.j0 k (!t146) a0_0 l0_1 l0_2))=some r:=by rw [if_pos rfl] at H;exact H
  clear H
  have H:=H1
  clear H1
  replace H:=oC H
  obtain ⟨t146,A60,H⟩:=H
  replace H:(impl_LockOk.j0 k (!t146) a0_0 l0_1 l0_2)=some r:=H
  have A6:=Am A60
  clear A60
  have H':=Am H
  clear H
  have Br:=cz0 Bc.out
  have Bs:=cz1 Bc.out
  have Bt:=cz2 Bc.out
  have Bu:=bF Bc.out 0
  have Bv:=bF Bc.out 1
  have Bw:=bF Bc.out 2
  go_wp2_with (first|(go_at_call 48;(with_reducible refine (impl_in.calls a0_0 0 2 true _ A4.out).mono ?_);rintro e w' ⟨rfl,⟨nd,rfl⟩⟩;(try first|exact ⟨rfl,_,World.drewN_drewN _ _ _⟩|exact ⟨rfl,_,Eq.trans (World.drewN_drewN _ _ _) (congrArg (World.drewN _) (Nat.add_assoc _ _ _))⟩))|(go_at_call 48;(with_reducible refine (impl_in.calls (l0_1.length:Int) 1 4 t146 _ A6.out).mono ?_);rintro e w' ⟨rfl,⟨nd,rfl⟩⟩;(try first|exact ⟨rfl,_,World.drewN_drewN _ _ _⟩|exact ⟨rfl,_,Eq.trans (World.drewN_drewN _ _ _) (congrArg (World.drewN _) (Nat.add_assoc _ _ _))⟩)))
  repeat (go_quiet (first|(go_at_call 48;(with_reducible refine (impl_in.calls a0_0 0 2 true _ A4.out).mono ?_);rintro e w' ⟨rfl,⟨nd,rfl⟩⟩;(try first|exact ⟨rfl,_,World.drewN_drewN _ _ _⟩|exact ⟨rfl,_,Eq.trans (World.drewN_drewN _ _ _) (congrArg (World.drewN _) (Nat.add_assoc _ _ _))⟩))|(go_at_call 48;(with_reducible refine (impl_in.calls (l0_1.length:Int) 1 4 t146 _ A6.out).mono ?_);rintro e w' ⟨rfl,⟨nd,rfl⟩⟩;(try first|exact ⟨rfl,_,World.drewN_drewN _ _ _⟩|exact ⟨rfl,_,Eq.trans (World.drewN_drewN _ _ _) (congrArg (World.drewN _) (Nat.add_assoc _ _ _))⟩)));try go_wp2_with (first|(go_at_call 48;(with_reducible refine (impl_in.calls a0_0 0 2 true _ A4.out).mono ?_);rintro e w' ⟨rfl,⟨nd,rfl⟩⟩;(try first|exact ⟨rfl,_,World.drewN_drewN _ _ _⟩|exact ⟨rfl,_,Eq.trans (World.drewN_drewN _ _ _) (congrArg (World.drewN _) (Nat.add_assoc _ _ _))⟩))|(go_at_call 48;(with_reducible refine (impl_in.calls (l0_1.length:Int) 1 4 t146 _ A6.out).mono ?_);rintro e w' ⟨rfl,⟨nd,rfl⟩⟩;(try first|exact ⟨rfl,_,World.drewN_drewN _ _ _⟩|exact ⟨rfl,_,Eq.trans (World.drewN_drewN _ _ _) (congrArg (World.drewN _) (Nat.add_assoc _ _ _))⟩))))
  go_meet
  case rel=>exact ⟨_,(!t146),(by first|rfl|(simp;done)|(simp [*];done)),H',⟨by first|omega|exact nR _⟩,⟨by (with_reducible repeat (first|refine bN ?_ _|refine bD ?_|refine bA ?_ _));exact Bc.out⟩,⟨by repeat (first|(with_reducible first|exact HB.out|apply oA|apply pN|apply o1|refine bS ?_ Bg.out)|exact HB.out)⟩⟩
 case rest =>
  clear HC2
  try clear p2
  try clear c5
  try clear c6
  try clear Br
  try clear Bs
  try clear Bt
  try clear Bx
  try clear By
  try clear Bz
  try clear Bu
  try clear Bv
  try clear Bw
  try clear BA
  try clear BB
  try clear BC
  obtain ⟨kq,x16_1,rfl,HA,Bi,Bc,HB⟩:=hcut
  cases kq with
 |zero=>exact absurd HA.out (by simp [impl_LockOk.j0])
 |succ kj1 =>
   have H:=HA.out
   clear HA
   simp only [impl_LockOk.j0] at H
   by_cases c9:x16_1=true
   ·subst c9
    have H1:(some false)=some r:=by rw [if_pos rfl] at H;exact H
    clear H
    have H:=H1
    clear H1
    obtain rfl:=oJ H
    go_wp2
    repeat (go_quiet (fail);try go_wp2)
    go_ret
    exact ⟨by first|rfl|(simp [errW_none,errW_some] <;> rfl)|(simp [*,errW_none,errW_some] <;> rfl),by repeat (first|(with_reducible first|exact HB.out|apply oA|apply pN|apply o1|refine bS ?_ Bg.out)|exact HB.out)⟩
   replace c9:=Bool.eq_false_iff.mpr c9
   subst c9
   have H1:(impl_LockOk.l0 kj1 0 l0_1 (l0_1.length:Int) 0 a0_0 l0_1 l0_2)=some r:=by rw [if_neg (show ¬ (false=true) by decide)] at H;exact H
   clear H
   have H:=H1
   clear H1
   have H':=Am H
   clear H
   have BD:=cz0 Bc.out
   have BE:=cz1 Bc.out
   have BF:=cz2 Bc.out
   have BG:=bF Bc.out 0
   have BH:=bF Bc.out 1
   have BI:=bF Bc.out 2
   go_wp2
   repeat (go_quiet (fail);try go_wp2)
   go_loopg [3,20] kj1 (fun kq v3 v20 w'=>∃ (x3_2:Int) (x20_2:Int),v3=.int .i64 x3_2∧v20=.int .i64 x20_2∧Aside0 (impl_LockOk.l0 kq x3_2 l0_1 (l0_1.length:Int) x20_2 a0_0 l0_1 l0_2=some r)∧Aside0 (kq≤kj1)∧Aside0 (w'.heap[Be]?=some (.cells #[.int .i64 a0_0,(.slice A0_1 l0_1.length c0_1),(.slice A0_2 l0_2.length c0_2)] 51 (0,0)))∧Aside0 (Below w.heap.size w w'))
   case atStart=>exact ⟨(0),(0),(by first|rfl|(simp;done)|(simp [*];done)),(by first|rfl|(simp;done)|(simp [*];done)),H',⟨nR _⟩,⟨by (with_reducible repeat (first|refine bN ?_ _|refine bD ?_|refine bA ?_ _));exact Bc.out⟩,⟨by repeat (first|(with_reducible first|exact HB.out|apply oA|apply pN|apply o1|refine bS ?_ Bg.out)|exact HB.out)⟩⟩
   case round =>
    clear H'
    try clear p2
    try clear c5
    try clear c6
    try clear c9
    try clear BD
    try clear BE
    try clear BF
    try clear Br
    try clear Bs
    try clear Bt
    try clear Bx
    try clear By
    try clear Bz
    try clear BG
    try clear BH
    try clear BI
    try clear Bu
    try clear Bv
    try clear Bw
    try clear BA
    try clear BB
    try clear BC
    try clear p2
    obtain ⟨x3_2,x20_2,rfl,rfl,HA,HK2,Bc,HB⟩:=hrel
    cases gk with
   |zero=>exact absurd HA.out (by simp [impl_LockOk.l0])
   |succ k2 =>
     have H:=HA.out
     clear HA
     simp only [impl_LockOk.l0] at H
     by_cases c11:x20_2<(l0_1.length:Int)
     rotate_left
     ·rw [if_neg c11] at H
      have c11b0:decide (x20_2<(l0_1.length:Int))=false:=dF c11
      clear c11
      obtain rfl:=oJ H
      have GF:=cz0 Bc.out
      have GG:=cz1 Bc.out
      have GH:=cz2 Bc.out
      have GI:=bF Bc.out 0
      have GJ:=bF Bc.out 1
      have GK:=bF Bc.out 2
      go_wp2
      repeat (go_quiet (fail);try go_wp2)
      go_ret
      exact ⟨by first|rfl|(simp [errW_none,errW_some] <;> rfl)|(simp [*,errW_none,errW_some] <;> rfl),by repeat (first|(with_reducible first|exact HB.out|apply oA|apply pN|apply o1|refine bS ?_ Bg.out)|exact HB.out)⟩

     rw [if_pos c11] at H
     have c11b0:decide (x20_2<(l0_1.length:Int))=true:=dT c11
     clear c11
     by_cases c12:0≤x20_2
     rotate_left
     ·rw [if_neg c12] at H
      exact absurd H (by simp)
     rw [if_pos c12] at H
     have c12b0:decide (0≤x20_2)=true:=dT c12
     clear c12
     by_cases c13:x20_2<(l0_1.length:Int)
     rotate_left
     ·rw [if_neg c13] at H
      exact absurd H (by simp)
     rw [if_pos c13] at H
     have c13b0:decide (x20_2<(l0_1.length:Int))=true:=dT c13
     clear c13
     have HC14:=Am H
     clear H
     have p147:0≤(x20_2:Int):=oE (by first|(with_reducible assumption)|assumption)
     have q147:x20_2<(l0_1.length:Int):=oE (by first|(with_reducible assumption)|assumption)
     obtain ⟨ad147,e147,hx147_0,hx147_1,hx147_2,hx147_3⟩:=at_T57 HR0_1.out x20_2 p147 q147
     cases e147
     replace hx147_0:=(bW HB hx147_0:)
     replace hx147_1:=(bW HB hx147_1:)
     replace hx147_2:=(bW HB hx147_2:)
     replace hx147_3:=(bW HB hx147_3:)
     replace p147:=eq_true p147
     replace q147:=eq_true q147
     go_upto_region 7 with (first|((with_reducible refine gD (N:=5) rfl ?_);(try (refine gate_guard (by rfl) ?_;dsimp only));refine bI ?hg (N:=5) ?hd (cs:=#[.int .i64 0,.int .i64 0,.int .i64 0,.bool false]) (t:=57) ?hr ?_;(case hd=>rfl);(case hg=>rfl);(case hr=>first|(go_simp;done)|(go_simp;rfl));intro Bb hg w15 hbox hb;have n0_:=Am (bX Bc.out hb);have n1_:=Am (bP (by repeat (first|(with_reducible first|exact HB.out|apply oA|apply pN|apply o1|refine bS ?_ Bg.out)|exact HB.out)) hb);have n2_:=Am (hbox);have n3_:=Am ((by rw [hg];exact (bZ (by repeat (first|(with_reducible first|exact HB.out|apply oA|apply pN|apply o1|refine bS ?_ Bg.out)|exact HB.out))):w.heap.size≤Bb));have n4_:=Am ((by rw [hg];exact (bZ (by repeat (first|(with_reducible first|exact HB.out|apply oA|apply pN|apply o1|refine bS ?_ Bg.out)|exact HB.out))):w.heap.size≤Bb));have n5_:=Am ((nL Bc.out hg));have n6_:=Am ((nG Bc.out hg));clear Bc HB;revert n0_ n1_ n2_ n3_ n4_ n5_ n6_;intro Bc HB Ba BL Bh Bd Bf;clear hb hbox hg;have BM:=Bf.out;have BN:=Bd.out;have Bj:=cz0 Ba.out;have Bk:=cz1 Ba.out;have Bl:=cz2 Ba.out;have Bm:=cz3 Ba.out;have Bn:=bF Ba.out 0;have Bo:=bF Ba.out 1;have Bp:=bF Ba.out 2;have Bq:=bF Ba.out 3))
     repeat (go_quiet (first|((with_reducible refine gD (N:=5) rfl ?_);(try (refine gate_guard (by rfl) ?_;dsimp only));refine bI ?hg (N:=5) ?hd (cs:=#[.int .i64 0,.int .i64 0,.int .i64 0,.bool false]) (t:=57) ?hr ?_;(case hd=>rfl);(case hg=>rfl);(case hr=>first|(go_simp;done)|(go_simp;rfl));intro Bb hg w15 hbox hb;have n0_:=Am (bX Bc.out hb);have n1_:=Am (bP (by repeat (first|(with_reducible first|exact HB.out|apply oA|apply pN|apply o1|refine bS ?_ Bg.out)|exact HB.out)) hb);have n2_:=Am (hbox);have n3_:=Am ((by rw [hg];exact (bZ (by repeat (first|(with_reducible first|exact HB.out|apply oA|apply pN|apply o1|refine bS ?_ Bg.out)|exact HB.out))):w.heap.size≤Bb));have n4_:=Am ((by rw [hg];exact (bZ (by repeat (first|(with_reducible first|exact HB.out|apply oA|apply pN|apply o1|refine bS ?_ Bg.out)|exact HB.out))):w.heap.size≤Bb));have n5_:=Am ((nL Bc.out hg));have n6_:=Am ((nG Bc.out hg));clear Bc HB;revert n0_ n1_ n2_ n3_ n4_ n5_ n6_;intro Bc HB Ba BL Bh Bd Bf;clear hb hbox hg;have BM:=Bf.out;have BN:=Bd.out;have Bj:=cz0 Ba.out;have Bk:=cz1 Ba.out;have Bl:=cz2 Ba.out;have Bm:=cz3 Ba.out;have Bn:=bF Ba.out 0;have Bo:=bF Ba.out 1;have Bp:=bF Ba.out 2;have Bq:=bF Ba.out 3));go_upto_region 7 with (first|((with_reducible refine gD (N:=5) rfl ?_);(try (refine gate_guard (by rfl) ?_;dsimp only));refine bI ?hg (N:=5) ?hd (cs:=#[.int .i64 0,.int .i64 0,.int .i64 0,.bool false]) (t:=57) ?hr ?_;(case hd=>rfl);(case hg=>rfl);(case hr=>first|(go_simp;done)|(go_simp;rfl));intro Bb hg w15 hbox hb;have n0_:=Am (bX Bc.out hb);have n1_:=Am (bP (by repeat (first|(with_reducible first|exact HB.out|apply oA|apply pN|apply o1|refine bS ?_ Bg.out)|exact HB.out)) hb);have n2_:=Am (hbox);have n3_:=Am ((by rw [hg];exact (bZ (by repeat (first|(with_reducible first|exact HB.out|apply oA|apply pN|apply o1|refine bS ?_ Bg.out)|exact HB.out))):w.heap.size≤Bb));have n4_:=Am ((by rw [hg];exact (bZ (by repeat (first|(with_reducible first|exact HB.out|apply oA|apply pN|apply o1|refine bS ?_ Bg.out)|exact HB.out))):w.heap.size≤Bb));have n5_:=Am ((nL Bc.out hg));have n6_:=Am ((nG Bc.out hg));clear Bc HB;revert n0_ n1_ n2_ n3_ n4_ n5_ n6_;intro Bc HB Ba BL Bh Bd Bf;clear hb hbox hg;have BM:=Bf.out;have BN:=Bd.out;have Bj:=cz0 Ba.out;have Bk:=cz1 Ba.out;have Bl:=cz2 Ba.out;have Bm:=cz3 Ba.out;have Bn:=bF Ba.out 0;have Bo:=bF Ba.out 1;have Bp:=bF Ba.out 2;have Bq:=bF Ba.out 3)))
     (try simp only [Act.put,lA,lZ,lS])
     go_cut [69] (fun v69 wc=>∃ (kq:Nat) (x69_13:Bool),v69=.bool x69_13∧Aside0 (impl_LockOk.j2 kq x3_2 x20_2 l0_1 (l0_1.length:Int) x20_2 x69_13 a0_0 l0_1 l0_2 ((rd_T57 l0_1 x20_2).f0) ((rd_T57 l0_1 x20_2).f1) ((rd_T57 l0_1 x20_2).f2) ((rd_T57 l0_1 x20_2).f3)=some r)∧Aside0 (kq≤k2)∧Aside0 (wc.heap[Be]?=some (.cells #[.int .i64 a0_0,(.slice (some ad147) l0_1.length c0_1),(.slice A0_2 l0_2.length c0_2)] 51 (0,0)))∧Aside0 (wc.heap[Bb]?=some (.cells #[.int .i64 ((rd_T57 l0_1 x20_2).f0),.int .i64 ((rd_T57 l0_1 x20_2).f1),.int .i64 ((rd_T57 l0_1 x20_2).f2),.bool ((rd_T57 l0_1 x20_2).f3)] 57 (0,0)))∧Aside0 (Below w.heap.size w wc))
     case first =>
      have H:=HC14.out
      clear HC14
      replace H:=oC H
      obtain ⟨t149,A180,H⟩:=H
      replace H:(if t149=true then ((impl_in.f ((rd_T57 l0_1 x20_2).f1) 0 2).bind fun t150=>(if t150=true then (if ((rd_T57 l0_1 x20_2).f1) > 0 then (if ((rd_T57 l0_1 x20_2).f0)=1 then ((impl_in.f ((rd_T57 l0_1 x20_2).f2) 0 3).bind fun t151=>(if t151=true then (if ((rd_T57 l0_1 x20_2).f0) > 0 then (if ((rd_T57 l0_1 x20_2).f2)=0 then (impl_LockOk.j2 k2 x3_2 x20_2 l0_1 (l0_1.length:Int) x20_2 true a0_0 l0_1 l0_2 ((rd_T57 l0_1 x20_2).f0) ((rd_T57 l0_1 x20_2).f1) ((rd_T57 l0_1 x20_2).f2) ((rd_T57 l0_1 x20_2).f3)) else (if (rd_T57 l0_1 x20_2).f3=true then (impl_LockOk.j2 k2 x3_2 x20_2 l0_1 (l0_1.length:Int) x20_2 (((rd_T57 l0_1 x20_2).f0) != 3) a0_0 l0_1 l0_2 ((rd_T57 l0_1 x20_2).f0) ((rd_T57 l0_1 x20_2).f1) ((rd_T57 l0_1 x20_2).f2) ((rd_T57 l0_1 x20_2).f3)) else (impl_LockOk.j2 k2 x3_2 x20_2 l0_1 (l0_1.length:Int) x20_2 false a0_0 l0_1 l0_2 ((rd_T57 l0_1 x20_2).f0) ((rd_T57 l0_1 x20_2).f1) ((rd_T57 l0_1 x20_2).f2) ((rd_T57 l0_1 x20_2).f3)))) else (if (rd_T57 l0_1 x20_2).f3=true then (impl_LockOk.j2 k2 x3_2 x20_2 l0_1 (l0_1.length:Int) x20_2 (((rd_T57 l0_1 x20_2).f0) != 3) a0_0 l0_1 l0_2 ((rd_T57 l0_1 x20_2).f0) ((rd_T57 l0_1 x20_2).f1) ((rd_T57 l0_1 x20_2).f2) ((rd_T57 l0_1 x20_2).f3)) else (impl_LockOk.j2 k2 x3_2 x20_2 l0_1 (l0_1.length:Int) x20_2 false a0_0 l0_1 l0_2 ((rd_T57 l0_1 x20_2).f0) ((rd_T57 l0_1 x20_2).f1) ((rd_T57 l0_1 x20_2).f2) ((rd_T57 l0_1 x20_2).f3)))) else (impl_LockOk.j2 k2 x3_2 x20_2 l0_1 (l0_1.length:Int) x20_2 true a0_0 l0_1 l0_2 ((rd_T57 l0_1 x20_2).f0) ((rd_T57 l0_1 x20_2).f1) ((rd_T57 l0_1 x20_2).f2) ((rd_T57 l0_1 x20_2).f3)))) else (impl_LockOk.j2 k2 x3_2 x20_2 l0_1 (l0_1.length:Int) x20_2 true a0_0 l0_1 l0_2 ((rd_T57 l0_1 x20_2).f0) ((rd_T57 l0_1 x20_2).f1) ((rd_T57 l0_1 x20_2).f2) ((rd_T57 l0_1 x20_2).f3))) else ((impl_in.f ((rd_T57 l0_1 x20_2).f2) 0 3).bind fun t152=>(if t152=true then (if ((rd_T57 l0_1 x20_2).f0) > 0 then (if ((rd_T57 l0_1 x20_2).f2)=0 then (impl_LockOk.j2 k2 x3_2 x20_2 l0_1 (l0_1.length:Int) x20_2 true a0_0 l0_1 l0_2 ((rd_T57 l0_1 x20_2).f0) ((rd_T57 l0_1 x20_2).f1) ((rd_T57 l0_1 x20_2).f2) ((rd_T57 l0_1 x20_2).f3)) else (if (rd_T57 l0_1 x20_2).f3=true then (impl_LockOk.j2 k2 x3_2 x20_2 l0_1 (l0_1.length:Int) x20_2 (((rd_T57 l0_1 x20_2).f0) != 3) a0_0 l0_1 l0_2 ((rd_T57 l0_1 x20_2).f0) ((rd_T57 l0_1 x20_2).f1) ((rd_T57 l0_1 x20_2).f2) ((rd_T57 l0_1 x20_2).f3)) else (impl_LockOk.j2 k2 x3_2 x20_2 l0_1 (l0_1.length:Int) x20_2 false a0_0 l0_1 l0_2 ((rd_T57 l0_1 x20_2).f0) ((rd_T57 l0_1 x20_2).f1) ((rd_T57 l0_1 x20_2).f2) ((rd_T57 l0_1 x20_2).f3)))) else (if (rd_T57 l0_1 x20_2).f3=true then (impl_LockOk.j2 k2 x3_2 x20_2 l0_1 (l0_1.length:Int) x20_2 (((rd_T57 l0_1 x20_2).f0) != 3) a0_0 l0_1 l0_2 ((rd_T57 l0_1 x20_2).f0) ((rd_T57 l0_1 x20_2).f1) ((rd_T57 l0_1 x20_2).f2) ((rd_T57 l0_1 x20_2).f3)) else (impl_LockOk.j2 k2 x3_2 x20_2 l0_1 (l0_1.length:Int) x20_2 false a0_0 l0_1 l0_2 ((rd_T57 l0_1 x20_2).f0) ((rd_T57 l0_1 x20_2).f1) ((rd_T57 l0_1 x20_2).f2) ((rd_T57 l0_1 x20_2).f3)))) else (impl_LockOk.j2 k2 x3_2 x20_2 l0_1 (l0_1.length:Int) x20_2 true a0_0 l0_1 l0_2 ((rd_T57 l0_1 x20_2).f0) ((rd_T57 l0_1 x20_2).f1) ((rd_T57 l0_1 x20_2).f2) ((rd_T57 l0_1 x20_2).f3))))) else (impl_LockOk.j2 k2 x3_2 x20_2 l0_1 (l0_1.length:Int) x20_2 true a0_0 l0_1 l0_2 ((rd_T57 l0_1 x20_2).f0) ((rd_T57 l0_1 x20_2).f1) ((rd_T57 l0_1 x20_2).f2) ((rd_T57 l0_1 x20_2).f3)))) else (impl_LockOk.j2 k2 x3_2 x20_2 l0_1 (l0_1.length:Int) x20_2 true a0_0 l0_1 l0_2 ((rd_T57 l0_1 x20_2).f0) ((rd_T57 l0_1 x20_2).f1) ((rd_T57 l0_1 x20_2).f2) ((rd_T57 l0_1 x20_2).f3)))=some r:=H
      have A18:=Am A180
      clear A180
      by_cases c19:t149=true
      rotate_left
      ·replace c19:=Bool.eq_false_iff.mpr c19
       subst c19
       have H1:(impl_LockOk.j2 k2 x3_2 x20_2 l0_1 (l0_1.length:Int) x20_2 true a0_0 l0_1 l0_2 ((rd_T57 l0_1 x20_2).f0) ((rd_T57 l0_1 x20_2).f1) ((rd_T57 l0_1 x20_2).f2) ((rd_T57 l0_1 x20_2).f3))=some r:=by rw [if_neg (show ¬ (false=true) by decide)] at H;exact H
       clear H
       have H:=H1
       clear H1
       have H':=Am H
       clear H
       have Jd:=Bf.out
       have Je:=Bd.out
       have FC:=cz0 Ba.out
       have FD:=cz1 Ba.out
       have FE:=cz2 Ba.out
       have FF:=cz3 Ba.out
       have FG:=bF Ba.out 0
       have FH:=bF Ba.out 1
       have FI:=bF Ba.out 2
       have FJ:=bF Ba.out 3
       go_wp2_with (first|(go_at_call 48;(with_reducible refine (impl_in.calls ((rd_T57 l0_1 x20_2).f0) 0 6 false _ A18.out).mono ?_);rintro e w' ⟨rfl,⟨nd,rfl⟩⟩;(try first|exact ⟨rfl,_,World.drewN_drewN _ _ _⟩|exact ⟨rfl,_,Eq.trans (World.drewN_drewN _ _ _) (congrArg (World.drewN _) (Nat.add_assoc _ _ _))⟩)))
       repeat (go_quiet (first|(go_at_call 48;(with_reducible refine (impl_in.calls ((rd_T57 l0_1 x20_2).f0) 0 6 false _ A18.out).mono ?_);rintro e w' ⟨rfl,⟨nd,rfl⟩⟩;(try first|exact ⟨rfl,_,World.drewN_drewN _ _ _⟩|exact ⟨rfl,_,Eq.trans (World.drewN_drewN _ _ _) (congrArg (World.drewN _) (Nat.add_assoc _ _ _))⟩)));try go_wp2_with (first|(go_at_call 48;(with_reducible refine (impl_in.calls ((rd_T57 l0_1 x20_2).f0) 0 6 false _ A18.out).mono ?_);rintro e w' ⟨rfl,⟨nd,rfl⟩⟩;(try first|exact ⟨rfl,_,World.drewN_drewN _ _ _⟩|exact ⟨rfl,_,Eq.trans (World.drewN_drewN _ _ _) (congrArg (World.drewN _) (Nat.add_assoc _ _ _))⟩))))
       go_meet
       case rel=>exact ⟨_,(true),(by first|rfl|(simp;done)|(simp [*];done)),H',⟨by have:=Bi.out;have:=HK2.out;first|omega|exact nR _⟩,⟨by (with_reducible repeat (first|refine bN ?_ _|refine bD ?_|refine bA ?_ _|refine bE ?_ Bd.out _));exact Bc.out⟩,⟨by (with_reducible repeat (first|refine bN ?_ _|refine bD ?_|refine bA ?_ _));refine bT (cs:=#[.int .i64 ((rd_T57 l0_1 x20_2).f0),.int .i64 ((rd_T57 l0_1 x20_2).f1),.int .i64 ((rd_T57 l0_1 x20_2).f2),.bool false]) ?_ 3 _ rfl;(with_reducible repeat (first|refine bN ?_ _|refine bD ?_|refine bA ?_ _));refine bT (cs:=#[.int .i64 ((rd_T57 l0_1 x20_2).f0),.int .i64 ((rd_T57 l0_1 x20_2).f1),.int .i64 0,.bool false]) ?_ 2 _ rfl;(with_reducible repeat (first|refine bN ?_ _|refine bD ?_|refine bA ?_ _));refine bT (cs:=#[.int .i64 ((rd_T57 l0_1 x20_2).f0),.int .i64 0,.int .i64 0,.bool false]) ?_ 1 _ rfl;(with_reducible repeat (first|refine bN ?_ _|refine bD ?_|refine bA ?_ _));refine bT (cs:=#[.int .i64 0,.int .i64 0,.int .i64 0,.bool false]) ?_ 0 _ rfl;(with_reducible repeat (first|refine bN ?_ _|refine bD ?_|refine bA ?_ _));exact Ba.out⟩,⟨by repeat (first|(with_reducible first|exact HB.out|apply oA|apply pN|apply o1|refine bS ?_ Bg.out|refine bS ?_ Bh.out)|exact HB.out)⟩⟩
      subst c19
      have H1:((impl_in.f ((rd_T57 l0_1 x20_2).f1) 0 2).bind fun t150=>(if t150=true then (if ((rd_T57 l0_1 x20_2).f1) > 0 then (if ((rd_T57 l0_1 x20_2).f0)=1 then ((impl_in.f ((rd_T57 l0_1 x20_2).f2) 0 3).bind fun t151=>(if t151=true then (if ((rd_T57 l0_1 x20_2).f0) > 0 then (if ((rd_T57 l0_1 x20_2).f2)=0 then (impl_LockOk.j2 k2 x3_2 x20_2 l0_1 (l0_1.length:Int) x20_2 true a0_0 l0_1 l0_2 ((rd_T57 l0_1 x20_2).f0) ((rd_T57 l0_1 x20_2).f1) ((rd_T57 l0_1 x20_2).f2) ((rd_T57 l0_1 x20_2).f3)) else (if (rd_T57 l0_1 x20_2).f3=true then (impl_LockOk.j2 k2 x3_2 x20_2 l0_1 (l0_1.length:Int) x20_2 (((rd_T57 l0_1 x20_2).f0) != 3) a0_0 l0_1 l0_2 ((rd_T57 l0_1 x20_2).f0) ((rd_T57 l0_1 x20_2).f1) ((rd_T57 l0_1 x20_2).f2) ((rd_T57 l0_1 x20_2).f3)) else (impl_LockOk.j2 k2 x3_2 x20_2 l0_1 (l0_1.length:Int) x20_2 false a0_0 l0_1 l0_2 ((rd_T57 l0_1 x20_2).f0) ((rd_T57 l0_1 x20_2).f1) ((rd_T57 l0_1 x20_2).f2) ((rd_T57 l0_1 x20_2).f3)))) else (if (rd_T57 l0_1 x20_2).f3=true then (impl_LockOk.j2 k2 x3_2 x20_2 l0_1 (l0_1.length:Int) x20_2 (((rd_T57 l0_1 x20_2).f0) != 3) a0_0 l0_1 l0_2 ((rd_T57 l0_1 x20_2).f0) ((rd_T57 l0_1 x20_2).f1) ((rd_T57 l0_1 x20_2).f2) ((rd_T57 l0_1 x20_2).f3)) else (impl_LockOk.j2 k2 x3_2 x20_2 l0_1 (l0_1.length:Int) x20_2 false a0_0 l0_1 l0_2 ((rd_T57 l0_1 x20_2).f0) ((rd_T57 l0_1 x20_2).f1) ((rd_T57 l0_1 x20_2).f2) ((rd_T57 l0_1 x20_2).f3)))) else (impl_LockOk.j2 k2 x3_2 x20_2 l0_1 (l0_1.length:Int) x20_2 true a0_0 l0_1 l0_2 ((rd_T57 l0_1 x20_2).f0) ((rd_T57 l0_1 x20_2).f1) ((rd_T57 l0_1 x20_2).f2) ((rd_T57 l0_1 x20_2).f3)))) else (impl_LockOk.j2 k2 x3_2 x20_2 l0_1 (l0_1.length:Int) x20_2 true a0_0 l0_1 l0_2 ((rd_T57 l0_1 x20_2).f0) ((rd_T57 l0_1 x20_2).f1) ((rd_T57 l0_1 x20_2).f2) ((rd_T57 l0_1 x20_2).f3))) else ((impl_in.f ((rd_T57 l0_1 x20_2).f2) 0 3).bind fun t152=>(if t152=true then (if ((rd_T57 l0_1 x20_2).f0) > 0 then (if ((rd_T57 l0_1 x20_2).f2)=0 then (impl_LockOk.j2 k2 x3_2 x20_2 l0_1 (l0_1.length:Int) x20_2 true a0_0 l0_1 l0_2 ((rd_T57 l0_1 x20_2).f0) ((rd_T57 l0_1 x20_2).f1) ((rd_T57 l0_1 x20_2).f2) ((rd_T57 l0_1 x20_2).f3)) else (if (rd_T57 l0_1 x20_2).f3=true then (impl_LockOk.j2 k2 x3_2 x20_2 l0_1 (l0_1.length:Int) x20_2 (((rd_T57 l0_1 x20_2).f0) != 3) a0_0 l0_1 l0_2 ((rd_T57 l0_1 x20_2).f0) ((rd_T57 l0_1 x20_2).f1) ((rd_T57 l0_1 x20_2).f2) ((rd_T57 l0_1 x20_2).f3)) else (impl_LockOk.j2 k2 x3_2 x20_2 l0_1 (l0_1.length:Int) x20_2 false a0_0 l0_1 l0_2 ((rd_T57 l0_1 x20_2).f0) ((rd_T57 l0_1 x20_2).f1) ((rd_T57 l0_1 x20_2).f2) ((rd_T57 l0_1 x20_2).f3)))) else (if (rd_T57 l0_1 x20_2).f3=true then (impl_LockOk.j2 k2 x3_2 x20_2 l0_1 (l0_1.length:Int) x20_2 (((rd_T57 l0_1 x20_2).f0) != 3) a0_0 l0_1 l0_2 ((rd_T57 l0_1 x20_2).f0) ((rd_T57 l0_1 x20_2).f1) ((rd_T57 l0_1 x20_2).f2) ((rd_T57 l0_1 x20_2).f3)) else (impl_LockOk.j2 k2 x3_2 x20_2 l0_1 (l0_1.length:Int) x20_2 false a0_0 l0_1 l0_2 ((rd_T57 l0_1 x20_2).f0) ((rd_T57 l0_1 x20_2).f1) ((rd_T57 l0_1 x20_2).f2) ((rd_T57 l0_1 x20_2).f3)))) else (impl_LockOk.j2 k2 x3_2 x20_2 l0_1 (l0_1.length:Int) x20_2 true a0_0 l0_1 l0_2 ((rd_T57 l0_1 x20_2).f0) ((rd_T57 l0_1 x20_2).f1) ((rd_T57 l0_1 x20_2).f2) ((rd_T57 l0_1 x20_2).f3))))) else (impl_LockOk.j2 k2 x3_2 x20_2 l0_1 (l0_1.length:Int) x20_2 true a0_0 l0_1 l0_2 ((rd_T57 l0_1 x20_2).f0) ((rd_T57 l0_1 x20_2).f1) ((rd_T57 l0_1 x20_2).f2) ((rd_T57 l0_1 x20_2).f3))))=some r:=by rw [if_pos rfl] at H;exact H
      clear H
      have H:=H1
      clear H1
      replace H:=oC H
      obtain ⟨t150,A200,H⟩:=H
      replace H:(if t150=true then (if ((rd_T57 l0_1 x20_2).f1) > 0 then (if ((rd_T57 l0_1 x20_2).f0)=1 then ((impl_in.f ((rd_T57 l0_1 x20_2).f2) 0 3).bind fun t151=>(if t151=true then (if ((rd_T57 l0_1 x20_2).f0) > 0 then (if ((rd_T57 l0_1 x20_2).f2)=0 then (impl_LockOk.j2 k2 x3_2 x20_2 l0_1 (l0_1.length:Int) x20_2 true a0_0 l0_1 l0_2 ((rd_T57 l0_1 x20_2).f0) ((rd_T57 l0_1 x20_2).f1) ((rd_T57 l0_1 x20_2).f2) ((rd_T57 l0_1 x20_2).f3)) else (if (rd_T57 l0_1 x20_2).f3=true then (impl_LockOk.j2 k2 x3_2 x20_2 l0_1 (l0_1.length:Int) x20_2 (((rd_T57 l0_1 x20_2).f0) != 3) a0_0 l0_1 l0_2 ((rd_T57 l0_1 x20_2).f0) ((rd_T57 l0_1 x20_2).f1) ((rd_T57 l0_1 x20_2).f2) ((rd_T57 l0_1 x20_2).f3)) else (impl_LockOk.j2 k2 x3_2 x20_2 l0_1 (l0_1.length:Int) x20_2 false a0_0 l0_1 l0_2 ((rd_T57 l0_1 x20_2).f0) ((rd_T57 l0_1 x20_2).f1) ((rd_T57 l0_1 x20_2).f2) ((rd_T57 l0_1 x20_2).f3)))) else (if (rd_T57 l0_1 x20_2).f3=true then (impl_LockOk.j2 k2 x3_2 x20_2 l0_1 (l0_1.length:Int) x20_2 (((rd_T57 l0_1 x20_2).f0) != 3) a0_0 l0_1 l0_2 ((rd_T57 l0_1 x20_2).f0) ((rd_T57 l0_1 x20_2).f1) ((rd_T57 l0_1 x20_2).f2) ((rd_T57 l0_1 x20_2).f3)) else (impl_LockOk.j2 k2 x3_2 x20_2 l0_1 (l0_1.length:Int) x20_2 false a0_0 l0_1 l0_2 ((rd_T57 l0_1 x20_2).f0) ((rd_T57 l0_1 x20_2).f1) ((rd_T57 l0_1 x20_2).f2) ((rd_T57 l0_1 x20_2).f3)))) else (impl_LockOk.j2 k2 x3_2 x20_2 l0_1 (l0_1.length:Int) x20_2 true a0_0 l0_1 l0_2 ((rd_T57 l0_1 x20_2).f0) ((rd_T57 l0_1 x20_2).f1) ((rd_T57 l0_1 x20_2).f2) ((rd_T57 l0_1 x20_2).f3)))) else (impl_LockOk.j2 k2 x3_2 x20_2 l0_1 (l0_1.length:Int) x20_2 true a0_0 l0_1 l0_2 ((rd_T57 l0_1 x20_2).f0) ((rd_T57 l0_1 x20_2).f1) ((rd_T57 l0_1 x20_2).f2) ((rd_T57 l0_1 x20_2).f3))) else ((impl_in.f ((rd_T57 l0_1 x20_2).f2) 0 3).bind fun t152=>(if t152=true then (if ((rd_T57 l0_1 x20_2).f0) > 0 then (if ((rd_T57 l0_1 x20_2).f2)=0 then (impl_LockOk.j2 k2 x3_2 x20_2 l0_1 (l0_1.length:Int) x20_2 true a0_0 l0_1 l0_2 ((rd_T57 l0_1 x20_2).f0) ((rd_T57 l0_1 x20_2).f1) ((rd_T57 l0_1 x20_2).f2) ((rd_T57 l0_1 x20_2).f3)) else (if (rd_T57 l0_1 x20_2).f3=true then (impl_LockOk.j2 k2 x3_2 x20_2 l0_1 (l0_1.length:Int) x20_2 (((rd_T57 l0_1 x20_2).f0) != 3) a0_0 l0_1 l0_2 ((rd_T57 l0_1 x20_2).f0) ((rd_T57 l0_1 x20_2).f1) ((rd_T57 l0_1 x20_2).f2) ((rd_T57 l0_1 x20_2).f3)) else (impl_LockOk.j2 k2 x3_2 x20_2 l0_1 (l0_1.length:Int) x20_2 false a0_0 l0_1 l0_2 ((rd_T57 l0_1 x20_2).f0) ((rd_T57 l0_1 x20_2).f1) ((rd_T57 l0_1 x20_2).f2) ((rd_T57 l0_1 x20_2).f3)))) else (if (rd_T57 l0_1 x20_2).f3=true then (impl_LockOk.j2 k2 x3_2 x20_2 l0_1 (l0_1.length:Int) x20_2 (((rd_T57 l0_1 x20_2).f0) != 3) a0_0 l0_1 l0_2 ((rd_T57 l0_1 x20_2).f0) ((rd_T57 l0_1 x20_2).f1) ((rd_T57 l0_1 x20_2).f2) ((rd_T57 l0_1 x20_2).f3)) else (impl_LockOk.j2 k2 x3_2 x20_2 l0_1 (l0_1.length:Int) x20_2 false a0_0 l0_1 l0_2 ((rd_T57 l0_1 x20_2).f0) ((rd_T57 l0_1 x20_2).f1) ((rd_T57 l0_1 x20_2).f2) ((rd_T57 l0_1 x20_2).f3)))) else (impl_LockOk.j2 k2 x3_2 x20_2 l0_1 (l0_1.length:Int) x20_2 true a0_0 l0_1 l0_2 ((rd_T57 l0_1 x20_2).f0) ((rd_T57 l0_1 x20_2).f1) ((rd_T57 l0_1 x20_2).f2) ((rd_T57 l0_1 x20_2).f3))))) else (impl_LockOk.j2 k2 x3_2 x20_2 l0_1 (l0_1.length:Int) x20_2 true a0_0 l0_1 l0_2 ((rd_T57 l0_1 x20_2).f0) ((rd_T57 l0_1 x20_2).f1) ((rd_T57 l0_1 x20_2).f2) ((rd_T57 l0_1 x20_2).f3)))=some r:=H
      have A20:=Am A200
      clear A200
      by_cases c21:t150=true
      rotate_left
      ·replace c21:=Bool.eq_false_iff.mpr c21
       subst c21
       have H1:(impl_LockOk.j2 k2 x3_2 x20_2 l0_1 (l0_1.length:Int) x20_2 true a0_0 l0_1 l0_2 ((rd_T57 l0_1 x20_2).f0) ((rd_T57 l0_1 x20_2).f1) ((rd_T57 l0_1 x20_2).f2) ((rd_T57 l0_1 x20_2).f3))=some r:=by rw [if_neg (show ¬ (false=true) by decide)] at H;exact H
       clear H
       have H:=H1
       clear H1
       have H':=Am H
       clear H
       have Jb:=Bf.out
       have Jc:=Bd.out
       have Fu:=cz0 Ba.out
       have Fv:=cz1 Ba.out
       have Fw:=cz2 Ba.out
       have Fx:=cz3 Ba.out
       have Fy:=bF Ba.out 0
       have Fz:=bF Ba.out 1
       have FA:=bF Ba.out 2
       have FB:=bF Ba.out 3
       go_wp2_with (first|(go_at_call 48;(with_reducible refine (impl_in.calls ((rd_T57 l0_1 x20_2).f0) 0 6 true _ A18.out).mono ?_);rintro e w' ⟨rfl,⟨nd,rfl⟩⟩;(try first|exact ⟨rfl,_,World.drewN_drewN _ _ _⟩|exact ⟨rfl,_,Eq.trans (World.drewN_drewN _ _ _) (congrArg (World.drewN _) (Nat.add_assoc _ _ _))⟩))|(go_at_call 48;(with_reducible refine (impl_in.calls ((rd_T57 l0_1 x20_2).f1) 0 2 false _ A20.out).mono ?_);rintro e w' ⟨rfl,⟨nd,rfl⟩⟩;(try first|exact ⟨rfl,_,World.drewN_drewN _ _ _⟩|exact ⟨rfl,_,Eq.trans (World.drewN_drewN _ _ _) (congrArg (World.drewN _) (Nat.add_assoc _ _ _))⟩)))
       repeat (go_quiet (first|(go_at_call 48;(with_reducible refine (impl_in.calls ((rd_T57 l0_1 x20_2).f0) 0 6 true _ A18.out).mono ?_);rintro e w' ⟨rfl,⟨nd,rfl⟩⟩;(try first|exact ⟨rfl,_,World.drewN_drewN _ _ _⟩|exact ⟨rfl,_,Eq.trans (World.drewN_drewN _ _ _) (congrArg (World.drewN _) (Nat.add_assoc _ _ _))⟩))|(go_at_call 48;(with_reducible refine (impl_in.calls ((rd_T57 l0_1 x20_2).f1) 0 2 false _ A20.out).mono ?_);rintro e w' ⟨rfl,⟨nd,rfl⟩⟩;(try first|exact ⟨rfl,_,World.drewN_drewN _ _ _⟩|exact ⟨rfl,_,Eq.trans (World.drewN_drewN _ _ _) (congrArg (World.drewN _) (Nat.add_assoc _ _ _))⟩)));try go_wp2_with (first|(go_at_call 48;(with_reducible refine (impl_in.calls ((rd_T57 l0_1 x20_2).f0) 0 6 true _ A18.out).mono ?_);rintro e w' ⟨rfl,⟨nd,rfl⟩⟩;(try first|exact ⟨rfl,_,World.drewN_drewN _ _ _⟩|exact ⟨rfl,_,Eq.trans (World.drewN_drewN _ _ _) (congrArg (World.drewN _) (Nat.add_assoc _ _ _))⟩))|(go_at_call 48;(with_reducible refine (impl_in.calls ((rd_T57 l0_1 x20_2).f1) 0 2 false _ A20.out).mono ?_);rintro e w' ⟨rfl,⟨nd,rfl⟩⟩;(try first|exact ⟨rfl,_,World.drewN_drewN _ _ _⟩|exact ⟨rfl,_,Eq.trans (World.drewN_drewN _ _ _) (congrArg (World.drewN _) (Nat.add_assoc _ _ _))⟩))))
       go_meet
       case rel=>exact ⟨_,(true),(by first|rfl|(simp;done)|(simp [*];done)),H',⟨by have:=Bi.out;have:=HK2.out;first|omega|exact nR _⟩,⟨by (with_reducible repeat (first|refine bN ?_ _|refine bD ?_|refine bA ?_ _|refine bE ?_ Bd.out _));exact Bc.out⟩,⟨by (with_reducible repeat (first|refine bN ?_ _|refine bD ?_|refine bA ?_ _));refine bT (cs:=#[.int .i64 ((rd_T57 l0_1 x20_2).f0),.int .i64 ((rd_T57 l0_1 x20_2).f1),.int .i64 ((rd_T57 l0_1 x20_2).f2),.bool false]) ?_ 3 _ rfl;(with_reducible repeat (first|refine bN ?_ _|refine bD ?_|refine bA ?_ _));refine bT (cs:=#[.int .i64 ((rd_T57 l0_1 x20_2).f0),.int .i64 ((rd_T57 l0_1 x20_2).f1),.int .i64 0,.bool false]) ?_ 2 _ rfl;(with_reducible repeat (first|refine bN ?_ _|refine bD ?_|refine bA ?_ _));refine bT (cs:=#[.int .i64 ((rd_T57 l0_1 x20_2).f0),.int .i64 0,.int .i64 0,.bool false]) ?_ 1 _ rfl;(with_reducible repeat (first|refine bN ?_ _|refine bD ?_|refine bA ?_ _));refine bT (cs:=#[.int .i64 0,.int .i64 0,.int .i64 0,.bool false]) ?_ 0 _ rfl;(with_reducible repeat (first|refine bN ?_ _|refine bD ?_|refine bA ?_ _));exact Ba.out⟩,⟨by repeat (first|(with_reducible first|exact HB.out|apply oA|apply pN|apply o1|refine bS ?_ Bg.out|refine bS ?_ Bh.out)|exact HB.out)⟩⟩
      subst c21
      have H1:(if ((rd_T57 l0_1 x20_2).f1) > 0 then (if ((rd_T57 l0_1 x20_2).f0)=1 then ((impl_in.f ((rd_T57 l0_1 x20_2).f2) 0 3).bind fun t151=>(if t151=true then (if ((rd_T57 l0_1 x20_2).f0) > 0 then (if ((rd_T57 l0_1 x20_2).f2)=0 then (impl_LockOk.j2 k2 x3_2 x20_2 l0_1 (l0_1.length:Int) x20_2 true a0_0 l0_1 l0_2 ((rd_T57 l0_1 x20_2).f0) ((rd_T57 l0_1 x20_2).f1) ((rd_T57 l0_1 x20_2).f2) ((rd_T57 l0_1 x20_2).f3)) else (if (rd_T57 l0_1 x20_2).f3=true then (impl_LockOk.j2 k2 x3_2 x20_2 l0_1 (l0_1.length:Int) x20_2 (((rd_T57 l0_1 x20_2).f0) != 3) a0_0 l0_1 l0_2 ((rd_T57 l0_1 x20_2).f0) ((rd_T57 l0_1 x20_2).f1) ((rd_T57 l0_1 x20_2).f2) ((rd_T57 l0_1 x20_2).f3)) else (impl_LockOk.j2 k2 x3_2 x20_2 l0_1 (l0_1.length:Int) x20_2 false a0_0 l0_1 l0_2 ((rd_T57 l0_1 x20_2).f0) ((rd_T57 l0_1 x20_2).f1) ((rd_T57 l0_1 x20_2).f2) ((rd_T57 l0_1 x20_2).f3)))) else (if (rd_T57 l0_1 x20_2).f3=true then (impl_LockOk.j2 k2 x3_2 x20_2 l0_1 (l0_1.length:Int) x20_2 (((rd_T57 l0_1 x20_2).f0) != 3) a0_0 l0_1 l0_2 ((rd_T57 l0_1 x20_2).f0) ((rd_T57 l0_1 x20_2).f1) ((rd_T57 l0_1 x20_2).f2) ((rd_T57 l0_1 x20_2).f3)) else (impl_LockOk.j2 k2 x3_2 x20_2 l0_1 (l0_1.length:Int) x20_2 false a0_0 l0_1 l0_2 ((rd_T57 l0_1 x20_2).f0) ((rd_T57 l0_1 x20_2).f1) ((rd_T57 l0_1 x20_2).f2) ((rd_T57 l0_1 x20_2).f3)))) else (impl_LockOk.j2 k2 x3_2 x20_2 l0_1 (l0_1.length:Int) x20_2 true a0_0 l0_1 l0_2 ((rd_T57 l0_1 x20_2).f0) ((rd_T57 l0_1 x20_2).f1) ((rd_T57 l0_1 x20_2).f2) ((rd_T57 l0_1 x20_2).f3)))) else (impl_LockOk.j2 k2 x3_2 x20_2 l0_1 (l0_1.length:Int) x20_2 true a0_0 l0_1 l0_2 ((rd_T57 l0_1 x20_2).f0) ((rd_T57 l0_1 x20_2).f1) ((rd_T57 l0_1 x20_2).f2) ((rd_T57 l0_1 x20_2).f3))) else ((impl_in.f ((rd_T57 l0_1 x20_2).f2) 0 3).bind fun t152=>(if t152=true then (if ((rd_T57 l0_1 x20_2).f0) > 0 then (if ((rd_T57 l0_1 x20_2).f2)=0 then (impl_LockOk.j2 k2 x3_2 x20_2 l0_1 (l0_1.length:Int) x20_2 true a0_0 l0_1 l0_2 ((rd_T57 l0_1 x20_2).f0) ((rd_T57 l0_1 x20_2).f1) ((rd_T57 l0_1 x20_2).f2) ((rd_T57 l0_1 x20_2).f3)) else (if (rd_T57 l0_1 x20_2).f3=true then (impl_LockOk.j2 k2 x3_2 x20_2 l0_1 (l0_1.length:Int) x20_2 (((rd_T57 l0_1 x20_2).f0) != 3) a0_0 l0_1 l0_2 ((rd_T57 l0_1 x20_2).f0) ((rd_T57 l0_1 x20_2).f1) ((rd_T57 l0_1 x20_2).f2) ((rd_T57 l0_1 x20_2).f3)) else (impl_LockOk.j2 k2 x3_2 x20_2 l0_1 (l0_1.length:Int) x20_2 false a0_0 l0_1 l0_2 ((rd_T57 l0_1 x20_2).f0) ((rd_T57 l0_1 x20_2).f1) ((rd_T57 l0_1 x20_2).f2) ((rd_T57 l0_1 x20_2).f3)))) else (if (rd_T57 l0_1 x20_2).f3=true then (impl_LockOk.j2 k2 x3_2 x20_2 l0_1 (l0_1.length:Int) x20_2 (((rd_T57 l0_1 x20_2).f0) != 3) a0_0 l0_1 l0_2 ((rd_T57 l0_1 x20_2).f0) ((rd_T57 l0_1 x20_2).f1) ((rd_T57 l0_1 x20_2).f2) ((rd_T57 l0_1 x20_2).f3)) else (impl_LockOk.j2 k2 x3_2 x20_2 l0_1 (l0_1.length:Int) x20_2 false a0_0 l0_1 l0_2 ((rd_T57 l0_1 x20_2).f0) ((rd_T57 l0_1 x20_2).f1) ((rd_T57 l0_1 x20_2).f2) ((rd_T57 l0_1 x20_2).f3)))) else (impl_LockOk.j2 k2 x3_2 x20_2 l0_1 (l0_1.length:Int) x20_2 true a0_0 l0_1 l0_2 ((rd_T57 l0_1 x20_2).f0) ((rd_T57 l0_1 x20_2).f1) ((rd_T57 l0_1 x20_2).f2) ((rd_T57 l0_1 x20_2).f3)))))=some r:=by rw [if_pos rfl] at H;exact H
      clear H
      have H:=H1
      clear H1
      by_cases c22:((rd_T57 l0_1 x20_2).f1) > 0
      rotate_left
      ·rw [if_neg c22] at H
       have c22b0:decide (0<((rd_T57 l0_1 x20_2).f1))=false:=dF c22
       clear c22
       (first|rw [c22b0]|(simp only [i64_w,i32_w];rw [c22b0])|skip)
       replace H:=oC H
       obtain ⟨t152,A460,H⟩:=H
       replace H:(if t152=true then (if ((rd_T57 l0_1 x20_2).f0) > 0 then (if ((rd_T57 l0_1 x20_2).f2)=0 then (impl_LockOk.j2 k2 x3_2 x20_2 l0_1 (l0_1.length:Int) x20_2 true a0_0 l0_1 l0_2 ((rd_T57 l0_1 x20_2).f0) ((rd_T57 l0_1 x20_2).f1) ((rd_T57 l0_1 x20_2).f2) ((rd_T57 l0_1 x20_2).f3)) else (if (rd_T57 l0_1 x20_2).f3=true then (impl_LockOk.j2 k2 x3_2 x20_2 l0_1 (l0_1.length:Int) x20_2 (((rd_T57 l0_1 x20_2).f0) != 3) a0_0 l0_1 l0_2 ((rd_T57 l0_1 x20_2).f0) ((rd_T57 l0_1 x20_2).f1) ((rd_T57 l0_1 x20_2).f2) ((rd_T57 l0_1 x20_2).f3)) else (impl_LockOk.j2 k2 x3_2 x20_2 l0_1 (l0_1.length:Int) x20_2 false a0_0 l0_1 l0_2 ((rd_T57 l0_1 x20_2).f0) ((rd_T57 l0_1 x20_2).f1) ((rd_T57 l0_1 x20_2).f2) ((rd_T57 l0_1 x20_2).f3)))) else (if (rd_T57 l0_1 x20_2).f3=true then (impl_LockOk.j2 k2 x3_2 x20_2 l0_1 (l0_1.length:Int) x20_2 (((rd_T57 l0_1 x20_2).f0) != 3) a0_0 l0_1 l0_2 ((rd_T57 l0_1 x20_2).f0) ((rd_T57 l0_1 x20_2).f1) ((rd_T57 l0_1 x20_2).f2) ((rd_T57 l0_1 x20_2).f3)) else (impl_LockOk.j2 k2 x3_2 x20_2 l0_1 (l0_1.length:Int) x20_2 false a0_0 l0_1 l0_2 ((rd_T57 l0_1 x20_2).f0) ((rd_T57 l0_1 x20_2).f1) ((rd_T57 l0_1 x20_2).f2) ((rd_T57 l0_1 x20_2).f3)))) else (impl_LockOk.j2 k2 x3_2 x20_2 l0_1 (l0_1.length:Int) x20_2 true a0_0 l0_1 l0_2 ((rd_T57 l0_1 x20_2).f0) ((rd_T57 l0_1 x20_2).f1) ((rd_T57 l0_1 x20_2).f2) ((rd_T57 l0_1 x20_2).f3)))=some r:=H
       have A46:=Am A460
       clear A460
       by_cases c47:t152=true
       rotate_left
       ·replace c47:=Bool.eq_false_iff.mpr c47
        subst c47
        have H1:(impl_LockOk.j2 k2 x3_2 x20_2 l0_1 (l0_1.length:Int) x20_2 true a0_0 l0_1 l0_2 ((rd_T57 l0_1 x20_2).f0) ((rd_T57 l0_1 x20_2).f1) ((rd_T57 l0_1 x20_2).f2) ((rd_T57 l0_1 x20_2).f3))=some r:=by rw [if_neg (show ¬ (false=true) by decide)] at H;exact H
        clear H
        have H:=H1
        clear H1
        have H':=Am H
        clear H
        have G9:=Bf.out
        have Ja:=Bd.out
        have Fm:=cz0 Ba.out
        have Fn:=cz1 Ba.out
        have Fo:=cz2 Ba.out
        have Fp:=cz3 Ba.out
        have Fq:=bF Ba.out 0
        have Fr:=bF Ba.out 1
        have Fs:=bF Ba.out 2
        have Ft:=bF Ba.out 3
        go_wp2_with (first|(go_at_call 48;(with_reducible refine (impl_in.calls ((rd_T57 l0_1 x20_2).f0) 0 6 true _ A18.out).mono ?_);rintro e w' ⟨rfl,⟨nd,rfl⟩⟩;(try first|exact ⟨rfl,_,World.drewN_drewN _ _ _⟩|exact ⟨rfl,_,Eq.trans (World.drewN_drewN _ _ _) (congrArg (World.drewN _) (Nat.add_assoc _ _ _))⟩))|(go_at_call 48;(with_reducible refine (impl_in.calls ((rd_T57 l0_1 x20_2).f1) 0 2 true _ A20.out).mono ?_);rintro e w' ⟨rfl,⟨nd,rfl⟩⟩;(try first|exact ⟨rfl,_,World.drewN_drewN _ _ _⟩|exact ⟨rfl,_,Eq.trans (World.drewN_drewN _ _ _) (congrArg (World.drewN _) (Nat.add_assoc _ _ _))⟩))|(go_at_call 48;(with_reducible refine (impl_in.calls ((rd_T57 l0_1 x20_2).f2) 0 3 false _ A46.out).mono ?_);rintro e w' ⟨rfl,⟨nd,rfl⟩⟩;(try first|exact ⟨rfl,_,World.drewN_drewN _ _ _⟩|exact ⟨rfl,_,Eq.trans (World.drewN_drewN _ _ _) (congrArg (World.drewN _) (Nat.add_assoc _ _ _))⟩)))
        repeat (go_quiet (first|(go_at_call 48;(with_reducible refine (impl_in.calls ((rd_T57 l0_1 x20_2).f0) 0 6 true _ A18.out).mono ?_);rintro e w' ⟨rfl,⟨nd,rfl⟩⟩;(try first|exact ⟨rfl,_,World.drewN_drewN _ _ _⟩|exact ⟨rfl,_,Eq.trans (World.drewN_drewN _ _ _) (congrArg (World.drewN _) (Nat.add_assoc _ _ _))⟩))|(go_at_call 48;(with_reducible refine (impl_in.calls ((rd_T57 l0_1 x20_2).f1) 0 2 true _ A20.out).mono ?_);rintro e w' ⟨rfl,⟨nd,rfl⟩⟩;(try first|exact ⟨rfl,_,World.drewN_drewN _ _ _⟩|exact ⟨rfl,_,Eq.trans (World.drewN_drewN _ _ _) (congrArg (World.drewN _) (Nat.add_assoc _ _ _))⟩))|(go_at_call 48;(with_reducible refine (impl_in.calls ((rd_T57 l0_1 x20_2).f2) 0 3 false _ A46.out).mono ?_);rintro e w' ⟨rfl,⟨nd,rfl⟩⟩;(try first|exact ⟨rfl,_,World.drewN_drewN _ _ _⟩|exact ⟨rfl,_,Eq.trans (World.drewN_drewN _ _ _) (congrArg (World.drewN _) (Nat.add_assoc _ _ _))⟩)));try go_wp2_with (first|(go_at_call 48;(with_reducible refine (impl_in.calls ((rd_T57 l0_1 x20_2).f0) 0 6 true _ A18.out).mono ?_);rintro e w' ⟨rfl,⟨nd,rfl⟩⟩;(try first|exact ⟨rfl,_,World.drewN_drewN _ _ _⟩|exact ⟨rfl,_,Eq.trans (World.drewN_drewN _ _ _) (congrArg (World.drewN _) (Nat.add_assoc _ _ _))⟩))|(go_at_call 48;(with_reducible refine (impl_in.calls ((rd_T57 l0_1 x20_2).f1) 0 2 true _ A20.out).mono ?_);rintro e w' ⟨rfl,⟨nd,rfl⟩⟩;(try first|exact ⟨rfl,_,World.drewN_drewN _ _ _⟩|exact ⟨rfl,_,Eq.trans (World.drewN_drewN _ _ _) (congrArg (World.drewN _) (Nat.add_assoc _ _ _))⟩))|(go_at_call 48;(with_reducible refine (impl_in.calls ((rd_T57 l0_1 x20_2).f2) 0 3 false _ A46.out).mono ?_);rintro e w' ⟨rfl,⟨nd,rfl⟩⟩;(try first|exact ⟨rfl,_,World.drewN_drewN _ _ _⟩|exact ⟨rfl,_,Eq.trans (World.drewN_drewN _ _ _) (congrArg (World.drewN _) (Nat.add_assoc _ _ _))⟩))))
        go_meet
        case rel=>exact ⟨_,(true),(by first|rfl|(simp;done)|(simp [*];done)),H',⟨by have:=Bi.out;have:=HK2.out;first|omega|exact nR _⟩,⟨by (with_reducible repeat (first|refine bN ?_ _|refine bD ?_|refine bA ?_ _|refine bE ?_ Bd.out _));exact Bc.out⟩,⟨by (with_reducible repeat (first|refine bN ?_ _|refine bD ?_|refine bA ?_ _));refine bT (cs:=#[.int .i64 ((rd_T57 l0_1 x20_2).f0),.int .i64 ((rd_T57 l0_1 x20_2).f1),.int .i64 ((rd_T57 l0_1 x20_2).f2),.bool false]) ?_ 3 _ rfl;(with_reducible repeat (first|refine bN ?_ _|refine bD ?_|refine bA ?_ _));refine bT (cs:=#[.int .i64 ((rd_T57 l0_1 x20_2).f0),.int .i64 ((rd_T57 l0_1 x20_2).f1),.int .i64 0,.bool false]) ?_ 2 _ rfl;(with_reducible repeat (first|refine bN ?_ _|refine bD ?_|refine bA ?_ _));refine bT (cs:=#[.int .i64 ((rd_T57 l0_1 x20_2).f0),.int .i64 0,.int .i64 0,.bool false]) ?_ 1 _ rfl;(with_reducible repeat (first|refine bN ?_ _|refine bD ?_|refine bA ?_ _));refine bT (cs:=#[.int .i64 0,.int .i64 0,.int .i64 0,.bool false]) ?_ 0 _ rfl;(with_reducible repeat (first|refine bN ?_ _|refine bD ?_|refine bA ?_ _));exact Ba.out⟩,⟨by repeat (first|(with_reducible first|exact HB.out|apply oA|apply pN|apply o1|refine bS ?_ Bg.out|refine bS ?_ Bh.out)|exact HB.out)⟩⟩
       subst c47
       have H1:(if ((rd_T57 l0_1 x20_2).f0) > 0 then (if ((rd_T57 l0_1 x20_2).f2)=0 then (impl_LockOk.j2 k2 x3_2 x20_2 l0_1 (l0_1.length:Int) x20_2 true a0_0 l0_1 l0_2 ((rd_T57 l0_1 x20_2).f0) ((rd_T57 l0_1 x20_2).f1) ((rd_T57 l0_1 x20_2).f2) ((rd_T57 l0_1 x20_2).f3)) else (if (rd_T57 l0_1 x20_2).f3=true then (impl_LockOk.j2 k2 x3_2 x20_2 l0_1 (l0_1.length:Int) x20_2 (((rd_T57 l0_1 x20_2).f0) != 3) a0_0 l0_1 l0_2 ((rd_T57 l0_1 x20_2).f0) ((rd_T57 l0_1 x20_2).f1) ((rd_T57 l0_1 x20_2).f2) ((rd_T57 l0_1 x20_2).f3)) else (impl_LockOk.j2 k2 x3_2 x20_2 l0_1 (l0_1.length:Int) x20_2 false a0_0 l0_1 l0_2 ((rd_T57 l0_1 x20_2).f0) ((rd_T57 l0_1 x20_2).f1) ((rd_T57 l0_1 x20_2).f2) ((rd_T57 l0_1 x20_2).f3)))) else (if (rd_T57 l0_1 x20_2).f3=true then (impl_LockOk.j2 k2 x3_2 x20_2 l0_1 (l0_1.length:Int) x20_2 (((rd_T57 l0_1 x20_2).f0) != 3) a0_0 l0_1 l0_2 ((rd_T57 l0_1 x20_2).f0) ((rd_T57 l0_1 x20_2).f1) ((rd_T57 l0_1 x20_2).f2) ((rd_T57 l0_1 x20_2).f3)) else (impl_LockOk.j2 k2 x3_2 x20_2 l0_1 (l0_1.length:Int) x20_2 false a0_0 l0_1 l0_2 ((rd_T57 l0_1 x20_2).f0) ((rd_T57 l0_1 x20_2).f1) ((rd_T57 l0_1 x20_2).f2) ((rd_T57 l0_1 x20_2).f3))))=some r:=by rw [if_pos rfl] at H;exact H
       clear H
       have H:=H1
       clear H1
       by_cases c48:((rd_T57 l0_1 x20_2).f0) > 0
       rotate_left
       ·rw [if_neg c48] at H
        have c48b0:decide (0<((rd_T57 l0_1 x20_2).f0))=false:=dF c48
        clear c48
        obtain ⟨bq58,hbq58⟩:∃ b_:Bool,b_=((rd_T57 l0_1 x20_2).f3):=⟨_,rfl⟩
        replace H:(if bq58=true then (impl_LockOk.j2 k2 x3_2 x20_2 l0_1 (l0_1.length:Int) x20_2 (((rd_T57 l0_1 x20_2).f0) != 3) a0_0 l0_1 l0_2 ((rd_T57 l0_1 x20_2).f0) ((rd_T57 l0_1 x20_2).f1) ((rd_T57 l0_1 x20_2).f2) bq58) else (impl_LockOk.j2 k2 x3_2 x20_2 l0_1 (l0_1.length:Int) x20_2 false a0_0 l0_1 l0_2 ((rd_T57 l0_1 x20_2).f0) ((rd_T57 l0_1 x20_2).f1) ((rd_T57 l0_1 x20_2).f2) bq58))=some r:=by rw [← hbq58] at H;exact H
        have Nbq58:=Am hbq58
        clear hbq58
        by_cases c59:bq58=true
        ·subst c59
         have H1:(impl_LockOk.j2 k2 x3_2 x20_2 l0_1 (l0_1.length:Int) x20_2 (((rd_T57 l0_1 x20_2).f0) != 3) a0_0 l0_1 l0_2 ((rd_T57 l0_1 x20_2).f0) ((rd_T57 l0_1 x20_2).f1) ((rd_T57 l0_1 x20_2).f2) true)=some r:=by rw [if_pos rfl] at H;exact H
         clear H
         have H:=H1
         clear H1
         have H':=Am H
         clear H
         have G5:=Bf.out
         have G6:=Bd.out
         have D6:=cz0 Ba.out
         have D7:=cz1 Ba.out
         have D8:=cz2 Ba.out
         have D9:=cz3 Ba.out
         have Fa:=bF Ba.out 0
         have Fb:=bF Ba.out 1
         have Fc:=bF Ba.out 2
         have Fd:=bF Ba.out 3
         go_wp2_with (first|(go_at_call 48;(with_reducible refine (impl_in.calls ((rd_T57 l0_1 x20_2).f0) 0 6 true _ A18.out).mono ?_);rintro e w' ⟨rfl,⟨nd,rfl⟩⟩;(try first|exact ⟨rfl,_,World.drewN_drewN _ _ _⟩|exact ⟨rfl,_,Eq.trans (World.drewN_drewN _ _ _) (congrArg (World.drewN _) (Nat.add_assoc _ _ _))⟩))|(go_at_call 48;(with_reducible refine (impl_in.calls ((rd_T57 l0_1 x20_2).f1) 0 2 true _ A20.out).mono ?_);rintro e w' ⟨rfl,⟨nd,rfl⟩⟩;(try first|exact ⟨rfl,_,World.drewN_drewN _ _ _⟩|exact ⟨rfl,_,Eq.trans (World.drewN_drewN _ _ _) (congrArg (World.drewN _) (Nat.add_assoc _ _ _))⟩))|(go_at_call 48;(with_reducible refine (impl_in.calls ((rd_T57 l0_1 x20_2).f2) 0 3 true _ A46.out).mono ?_);rintro e w' ⟨rfl,⟨nd,rfl⟩⟩;(try first|exact ⟨rfl,_,World.drewN_drewN _ _ _⟩|exact ⟨rfl,_,Eq.trans (World.drewN_drewN _ _ _) (congrArg (World.drewN _) (Nat.add_assoc _ _ _))⟩)))
         repeat (go_quiet (first|(go_at_call 48;(with_reducible refine (impl_in.calls ((rd_T57 l0_1 x20_2).f0) 0 6 true _ A18.out).mono ?_);rintro e w' ⟨rfl,⟨nd,rfl⟩⟩;(try first|exact ⟨rfl,_,World.drewN_drewN _ _ _⟩|exact ⟨rfl,_,Eq.trans (World.drewN_drewN _ _ _) (congrArg (World.drewN _) (Nat.add_assoc _ _ _))⟩))|(go_at_call 48;(with_reducible refine (impl_in.calls ((rd_T57 l0_1 x20_2).f1) 0 2 true _ A20.out).mono ?_);rintro e w' ⟨rfl,⟨nd,rfl⟩⟩;(try first|exact ⟨rfl,_,World.drewN_drewN _ _ _⟩|exact ⟨rfl,_,Eq.trans (World.drewN_drewN _ _ _) (congrArg (World.drewN _) (Nat.add_assoc _ _ _))⟩))|(go_at_call 48;(with_reducible refine (impl_in.calls ((rd_T57 l0_1 x20_2).f2) 0 3 true _ A46.out).mono ?_);rintro e w' ⟨rfl,⟨nd,rfl⟩⟩;(try first|exact ⟨rfl,_,World.drewN_drewN _ _ _⟩|exact ⟨rfl,_,Eq.trans (World.drewN_drewN _ _ _) (congrArg (World.drewN _) (Nat.add_assoc _ _ _))⟩)));try go_wp2_with (first|(go_at_call 48;(with_reducible refine (impl_in.calls ((rd_T57 l0_1 x20_2).f0) 0 6 true _ A18.out).mono ?_);rintro e w' ⟨rfl,⟨nd,rfl⟩⟩;(try first|exact ⟨rfl,_,World.drewN_drewN _ _ _⟩|exact ⟨rfl,_,Eq.trans (World.drewN_drewN _ _ _) (congrArg (World.drewN _) (Nat.add_assoc _ _ _))⟩))|(go_at_call 48;(with_reducible refine (impl_in.calls ((rd_T57 l0_1 x20_2).f1) 0 2 true _ A20.out).mono ?_);rintro e w' ⟨rfl,⟨nd,rfl⟩⟩;(try first|exact ⟨rfl,_,World.drewN_drewN _ _ _⟩|exact ⟨rfl,_,Eq.trans (World.drewN_drewN _ _ _) (congrArg (World.drewN _) (Nat.add_assoc _ _ _))⟩))|(go_at_call 48;(with_reducible refine (impl_in.calls ((rd_T57 l0_1 x20_2).f2) 0 3 true _ A46.out).mono ?_);rintro e w' ⟨rfl,⟨nd,rfl⟩⟩;(try first|exact ⟨rfl,_,World.drewN_drewN _ _ _⟩|exact ⟨rfl,_,Eq.trans (World.drewN_drewN _ _ _) (congrArg (World.drewN _) (Nat.add_assoc _ _ _))⟩))))
         any_goals first|exact absurd Nbq58.out.symm (by assumption)|exact absurd (Nbq58.out.trans (by assumption)) (by decide)|skip
         go_meet
         case rel=>(try rw [← Nbq58.out]);exact ⟨_,((((rd_T57 l0_1 x20_2).f0) != 3)),(by first|rfl|(simp;done)|(simp [*];done)),H',⟨by have:=Bi.out;have:=HK2.out;first|omega|exact nR _⟩,⟨by (with_reducible repeat (first|refine bN ?_ _|refine bD ?_|refine bA ?_ _|refine bE ?_ Bd.out _));exact Bc.out⟩,⟨by (with_reducible repeat (first|refine bN ?_ _|refine bD ?_|refine bA ?_ _));refine bT (cs:=#[.int .i64 ((rd_T57 l0_1 x20_2).f0),.int .i64 ((rd_T57 l0_1 x20_2).f1),.int .i64 ((rd_T57 l0_1 x20_2).f2),.bool false]) ?_ 3 _ rfl;(with_reducible repeat (first|refine bN ?_ _|refine bD ?_|refine bA ?_ _));refine bT (cs:=#[.int .i64 ((rd_T57 l0_1 x20_2).f0),.int .i64 ((rd_T57 l0_1 x20_2).f1),.int .i64 0,.bool false]) ?_ 2 _ rfl;(with_reducible repeat (first|refine bN ?_ _|refine bD ?_|refine bA ?_ _));refine bT (cs:=#[.int .i64 ((rd_T57 l0_1 x20_2).f0),.int .i64 0,.int .i64 0,.bool false]) ?_ 1 _ rfl;(with_reducible repeat (first|refine bN ?_ _|refine bD ?_|refine bA ?_ _));refine bT (cs:=#[.int .i64 0,.int .i64 0,.int .i64 0,.bool false]) ?_ 0 _ rfl;(with_reducible repeat (first|refine bN ?_ _|refine bD ?_|refine bA ?_ _));exact Ba.out⟩,⟨by repeat (first|(with_reducible first|exact HB.out|apply oA|apply pN|apply o1|refine bS ?_ Bg.out|refine bS ?_ Bh.out)|exact HB.out)⟩⟩
        replace c59:=Bool.eq_false_iff.mpr c59
        subst c59
        have H1:(impl_LockOk.j2 k2 x3_2 x20_2 l0_1 (l0_1.length:Int) x20_2 false a0_0 l0_1 l0_2 ((rd_T57 l0_1 x20_2).f0) ((rd_T57 l0_1 x20_2).f1) ((rd_T57 l0_1 x20_2).f2) false)=some r:=by rw [if_neg (show ¬ (false=true) by decide)] at H;exact H
        clear H
        have H:=H1
        clear H1
        have H':=Am H
        clear H
        have G7:=Bf.out
        have G8:=Bd.out
        have Fe:=cz0 Ba.out
        have Ff:=cz1 Ba.out
        have Fg:=cz2 Ba.out
        have Fh:=cz3 Ba.out
        have Fi:=bF Ba.out 0
        have Fj:=bF Ba.out 1
        have Fk:=bF Ba.out 2
        have Fl:=bF Ba.out 3
        go_wp2_with (first|(go_at_call 48;(with_reducible refine (impl_in.calls ((rd_T57 l0_1 x20_2).f0) 0 6 true _ A18.out).mono ?_);rintro e w' ⟨rfl,⟨nd,rfl⟩⟩;(try first|exact ⟨rfl,_,World.drewN_drewN _ _ _⟩|exact ⟨rfl,_,Eq.trans (World.drewN_drewN _ _ _) (congrArg (World.drewN _) (Nat.add_assoc _ _ _))⟩))|(go_at_call 48;(with_reducible refine (impl_in.calls ((rd_T57 l0_1 x20_2).f1) 0 2 true _ A20.out).mono ?_);rintro e w' ⟨rfl,⟨nd,rfl⟩⟩;(try first|exact ⟨rfl,_,World.drewN_drewN _ _ _⟩|exact ⟨rfl,_,Eq.trans (World.drewN_drewN _ _ _) (congrArg (World.drewN _) (Nat.add_assoc _ _ _))⟩))|(go_at_call 48;(with_reducible refine (impl_in.calls ((rd_T57 l0_1 x20_2).f2) 0 3 true _ A46.out).mono ?_);rintro e w' ⟨rfl,⟨nd,rfl⟩⟩;(try first|exact ⟨rfl,_,World.drewN_drewN _ _ _⟩|exact ⟨rfl,_,Eq.trans (World.drewN_drewN _ _ _) (congrArg (World.drewN _) (Nat.add_assoc _ _ _))⟩)))
        repeat (go_quiet (first|(go_at_call 48;(with_reducible refine (impl_in.calls ((rd_T57 l0_1 x20_2).f0) 0 6 true _ A18.out).mono ?_);rintro e w' ⟨rfl,⟨nd,rfl⟩⟩;(try first|exact ⟨rfl,_,World.drewN_drewN _ _ _⟩|exact ⟨rfl,_,Eq.trans (World.drewN_drewN _ _ _) (congrArg (World.drewN _) (Nat.add_assoc _ _ _))⟩))|(go_at_call 48;(with_reducible refine (impl_in.calls ((rd_T57 l0_1 x20_2).f1) 0 2 true _ A20.out).mono ?_);rintro e w' ⟨rfl,⟨nd,rfl⟩⟩;(try first|exact ⟨rfl,_,World.drewN_drewN _ _ _⟩|exact ⟨rfl,_,Eq.trans (World.drewN_drewN _ _ _) (congrArg (World.drewN _) (Nat.add_assoc _ _ _))⟩))|(go_at_call 48;(with_reducible refine (impl_in.calls ((rd_T57 l0_1 x20_2).f2) 0 3 true _ A46.out).mono ?_);rintro e w' ⟨rfl,⟨nd,rfl⟩⟩;(try first|exact ⟨rfl,_,World.drewN_drewN _ _ _⟩|exact ⟨rfl,_,Eq.trans (World.drewN_drewN _ _ _) (congrArg (World.drewN _) (Nat.add_assoc _ _ _))⟩)));try go_wp2_with (first|(go_at_call 48;(with_reducible refine (impl_in.calls ((rd_T57 l0_1 x20_2).f0) 0 6 true _ A18.out).mono ?_);rintro e w' ⟨rfl,⟨nd,rfl⟩⟩;(try first|exact ⟨rfl,_,World.drewN_drewN _ _ _⟩|exact ⟨rfl,_,Eq.trans (World.drewN_drewN _ _ _) (congrArg (World.drewN _) (Nat.add_assoc _ _ _))⟩))|(go_at_call 48;(with_reducible refine (impl_in.calls ((rd_T57 l0_1 x20_2).f1) 0 2 true _ A20.out).mono ?_);rintro e w' ⟨rfl,⟨nd,rfl⟩⟩;(try first|exact ⟨rfl,_,World.drewN_drewN _ _ _⟩|exact ⟨rfl,_,Eq.trans (World.drewN_drewN _ _ _) (congrArg (World.drewN _) (Nat.add_assoc _ _ _))⟩))|(go_at_call 48;(with_reducible refine (impl_in.calls ((rd_T57 l0_1 x20_2).f2) 0 3 true _ A46.out).mono ?_);rintro e w' ⟨rfl,⟨nd,rfl⟩⟩;(try first|exact ⟨rfl,_,World.drewN_drewN _ _ _⟩|exact ⟨rfl,_,Eq.trans (World.drewN_drewN _ _ _) (congrArg (World.drewN _) (Nat.add_assoc _ _ _))⟩))))
        any_goals first|exact absurd Nbq58.out.symm (by assumption)|exact absurd (Nbq58.out.trans (by assumption)) (by decide)|skip
        go_meet
        case rel=>(try rw [← Nbq58.out]);exact ⟨_,(false),(by first|rfl|(simp;done)|(simp [*];done)),H',⟨by have:=Bi.out;have:=HK2.out;first|omega|exact nR _⟩,⟨by (with_reducible repeat (first|refine bN ?_ _|refine bD ?_|refine bA ?_ _|refine bE ?_ Bd.out _));exact Bc.out⟩,⟨by (with_reducible repeat (first|refine bN ?_ _|refine bD ?_|refine bA ?_ _));refine bT (cs:=#[.int .i64 ((rd_T57 l0_1 x20_2).f0),.int .i64 ((rd_T57 l0_1 x20_2).f1),.int .i64 ((rd_T57 l0_1 x20_2).f2),.bool false]) ?_ 3 _ rfl;(with_reducible repeat (first|refine bN ?_ _|refine bD ?_|refine bA ?_ _));refine bT (cs:=#[.int .i64 ((rd_T57 l0_1 x20_2).f0),.int .i64 ((rd_T57 l0_1 x20_2).f1),.int .i64 0,.bool false]) ?_ 2 _ rfl;(with_reducible repeat (first|refine bN ?_ _|refine bD ?_|refine bA ?_ _));refine bT (cs:=#[.int .i64 ((rd_T57 l0_1 x20_2).f0),.int .i64 0,.int .i64 0,.bool false]) ?_ 1 _ rfl;(with_reducible repeat (first|refine bN ?_ _|refine bD ?_|refine bA ?_ _));refine bT (cs:=#[.int .i64 0,.int .i64 0,.int .i64 0,.bool false]) ?_ 0 _ rfl;(with_reducible repeat (first|refine bN ?_ _|refine bD ?_|refine bA ?_ _));exact Ba.out⟩,⟨by repeat (first|(with_reducible first|exact HB.out|apply oA|apply pN|apply o1|refine bS ?_ Bg.out|refine bS ?_ Bh.out)|exact HB.out)⟩⟩
       rw [if_pos c48] at H
       have c48b0:decide (0<((rd_T57 l0_1 x20_2).f0))=true:=dT c48
       clear c48
       by_cases c49:((rd_T57 l0_1 x20_2).f2)=0
       ·rw [if_pos c49] at H
        have c49b0:(((rd_T57 l0_1 x20_2).f2) == 0)=true:=beq_iff_eq.mpr c49
        have c49b1:(((rd_T57 l0_1 x20_2).f2) != 0)=false:=bne_eq_false_iff_eq.mpr c49
        clear c49
        have H':=Am H
        clear H
        have GZ:=Bf.out
        have G0:=Bd.out
        have DI:=cz0 Ba.out
        have DJ:=cz1 Ba.out
        have DK:=cz2 Ba.out
        have DL:=cz3 Ba.out
        have DM:=bF Ba.out 0
        have DN:=bF Ba.out 1
        have DO:=bF Ba.out 2
        have DP:=bF Ba.out 3
        go_wp2_with (first|(go_at_call 48;(with_reducible refine (impl_in.calls ((rd_T57 l0_1 x20_2).f0) 0 6 true _ A18.out).mono ?_);rintro e w' ⟨rfl,⟨nd,rfl⟩⟩;(try first|exact ⟨rfl,_,World.drewN_drewN _ _ _⟩|exact ⟨rfl,_,Eq.trans (World.drewN_drewN _ _ _) (congrArg (World.drewN _) (Nat.add_assoc _ _ _))⟩))|(go_at_call 48;(with_reducible refine (impl_in.calls ((rd_T57 l0_1 x20_2).f1) 0 2 true _ A20.out).mono ?_);rintro e w' ⟨rfl,⟨nd,rfl⟩⟩;(try first|exact ⟨rfl,_,World.drewN_drewN _ _ _⟩|exact ⟨rfl,_,Eq.trans (World.drewN_drewN _ _ _) (congrArg (World.drewN _) (Nat.add_assoc _ _ _))⟩))|(go_at_call 48;(with_reducible refine (impl_in.calls ((rd_T57 l0_1 x20_2).f2) 0 3 true _ A46.out).mono ?_);rintro e w' ⟨rfl,⟨nd,rfl⟩⟩;(try first|exact ⟨rfl,_,World.drewN_drewN _ _ _⟩|exact ⟨rfl,_,Eq.trans (World.drewN_drewN _ _ _) (congrArg (World.drewN _) (Nat.add_assoc _ _ _))⟩)))
        repeat (go_quiet (first|(go_at_call 48;(with_reducible refine (impl_in.calls ((rd_T57 l0_1 x20_2).f0) 0 6 true _ A18.out).mono ?_);rintro e w' ⟨rfl,⟨nd,rfl⟩⟩;(try first|exact ⟨rfl,_,World.drewN_drewN _ _ _⟩|exact ⟨rfl,_,Eq.trans (World.drewN_drewN _ _ _) (congrArg (World.drewN _) (Nat.add_assoc _ _ _))⟩))|(go_at_call 48;(with_reducible refine (impl_in.calls ((rd_T57 l0_1 x20_2).f1) 0 2 true _ A20.out).mono ?_);rintro e w' ⟨rfl,⟨nd,rfl⟩⟩;(try first|exact ⟨rfl,_,World.drewN_drewN _ _ _⟩|exact ⟨rfl,_,Eq.trans (World.drewN_drewN _ _ _) (congrArg (World.drewN _) (Nat.add_assoc _ _ _))⟩))|(go_at_call 48;(with_reducible refine (impl_in.calls ((rd_T57 l0_1 x20_2).f2) 0 3 true _ A46.out).mono ?_);rintro e w' ⟨rfl,⟨nd,rfl⟩⟩;(try first|exact ⟨rfl,_,World.drewN_drewN _ _ _⟩|exact ⟨rfl,_,Eq.trans (World.drewN_drewN _ _ _) (congrArg (World.drewN _) (Nat.add_assoc _ _ _))⟩)));try go_wp2_with (first|(go_at_call 48;(with_reducible refine (impl_in.calls ((rd_T57 l0_1 x20_2).f0) 0 6 true _ A18.out).mono ?_);rintro e w' ⟨rfl,⟨nd,rfl⟩⟩;(try first|exact ⟨rfl,_,World.drewN_drewN _ _ _⟩|exact ⟨rfl,_,Eq.trans (World.drewN_drewN _ _ _) (congrArg (World.drewN _) (Nat.add_assoc _ _ _))⟩))|(go_at_call 48;(with_reducible refine (impl_in.calls ((rd_T57 l0_1 x20_2).f1) 0 2 true _ A20.out).mono ?_);rintro e w' ⟨rfl,⟨nd,rfl⟩⟩;(try first|exact ⟨rfl,_,World.drewN_drewN _ _ _⟩|exact ⟨rfl,_,Eq.trans (World.drewN_drewN _ _ _) (congrArg (World.drewN _) (Nat.add_assoc _ _ _))⟩))|(go_at_call 48;(with_reducible refine (impl_in.calls ((rd_T57 l0_1 x20_2).f2) 0 3 true _ A46.out).mono ?_);rintro e w' ⟨rfl,⟨nd,rfl⟩⟩;(try first|exact ⟨rfl,_,World.drewN_drewN _ _ _⟩|exact ⟨rfl,_,Eq.trans (World.drewN_drewN _ _ _) (congrArg (World.drewN _) (Nat.add_assoc _ _ _))⟩))))
        go_meet
        case rel=>exact ⟨_,(true),(by first|rfl|(simp;done)|(simp [*];done)),H',⟨by have:=Bi.out;have:=HK2.out;first|omega|exact nR _⟩,⟨by (with_reducible repeat (first|refine bN ?_ _|refine bD ?_|refine bA ?_ _|refine bE ?_ Bd.out _));exact Bc.out⟩,⟨by (with_reducible repeat (first|refine bN ?_ _|refine bD ?_|refine bA ?_ _));refine bT (cs:=#[.int .i64 ((rd_T57 l0_1 x20_2).f0),.int .i64 ((rd_T57 l0_1 x20_2).f1),.int .i64 ((rd_T57 l0_1 x20_2).f2),.bool false]) ?_ 3 _ rfl;(with_reducible repeat (first|refine bN ?_ _|refine bD ?_|refine bA ?_ _));refine bT (cs:=#[.int .i64 ((rd_T57 l0_1 x20_2).f0),.int .i64 ((rd_T57 l0_1 x20_2).f1),.int .i64 0,.bool false]) ?_ 2 _ rfl;(with_reducible repeat (first|refine bN ?_ _|refine bD ?_|refine bA ?_ _));refine bT (cs:=#[.int .i64 ((rd_T57 l0_1 x20_2).f0),.int .i64 0,.int .i64 0,.bool false]) ?_ 1 _ rfl;(with_reducible repeat (first|refine bN ?_ _|refine bD ?_|refine bA ?_ _));refine bT (cs:=#[.int .i64 0,.int .i64 0,.int .i64 0,.bool false]) ?_ 0 _ rfl;(with_reducible repeat (first|refine bN ?_ _|refine bD ?_|refine bA ?_ _));exact Ba.out⟩,⟨by repeat (first|(with_reducible first|exact HB.out|apply oA|apply pN|apply o1|refine bS ?_ Bg.out|refine bS ?_ Bh.out)|exact HB.out)⟩⟩
       rw [if_neg c49] at H
       have c49b0:(((rd_T57 l0_1 x20_2).f2) == 0)=false:=beq_eq_false_iff_ne.mpr c49
       have c49b1:(((rd_T57 l0_1 x20_2).f2) != 0)=true:=bne_iff_ne.mpr c49
       obtain ⟨bq52,hbq52⟩:∃ b_:Bool,b_=((rd_T57 l0_1 x20_2).f3):=⟨_,rfl⟩
       replace H:(if bq52=true then (impl_LockOk.j2 k2 x3_2 x20_2 l0_1 (l0_1.length:Int) x20_2 (((rd_T57 l0_1 x20_2).f0) != 3) a0_0 l0_1 l0_2 ((rd_T57 l0_1 x20_2).f0) ((rd_T57 l0_1 x20_2).f1) ((rd_T57 l0_1 x20_2).f2) bq52) else (impl_LockOk.j2 k2 x3_2 x20_2 l0_1 (l0_1.length:Int) x20_2 false a0_0 l0_1 l0_2 ((rd_T57 l0_1 x20_2).f0) ((rd_T57 l0_1 x20_2).f1) ((rd_T57 l0_1 x20_2).f2) bq52))=some r:=by rw [← hbq52] at H;exact H
       have Nbq52:=Am hbq52
       clear hbq52
       by_cases c53:bq52=true
       ·subst c53
        have H1:(impl_LockOk.j2 k2 x3_2 x20_2 l0_1 (l0_1.length:Int) x20_2 (((rd_T57 l0_1 x20_2).f0) != 3) a0_0 l0_1 l0_2 ((rd_T57 l0_1 x20_2).f0) ((rd_T57 l0_1 x20_2).f1) ((rd_T57 l0_1 x20_2).f2) true)=some r:=by rw [if_pos rfl] at H;exact H
        clear H
        have H:=H1
        clear H1
        have H':=Am H
        clear H
        have G1:=Bf.out
        have G2:=Bd.out
        have DQ:=cz0 Ba.out
        have DR:=cz1 Ba.out
        have DS:=cz2 Ba.out
        have DT:=cz3 Ba.out
        have DU:=bF Ba.out 0
        have DV:=bF Ba.out 1
        have DW:=bF Ba.out 2
        have DX:=bF Ba.out 3
        go_wp2_with (first|(go_at_call 48;(with_reducible refine (impl_in.calls ((rd_T57 l0_1 x20_2).f0) 0 6 true _ A18.out).mono ?_);rintro e w' ⟨rfl,⟨nd,rfl⟩⟩;(try first|exact ⟨rfl,_,World.drewN_drewN _ _ _⟩|exact ⟨rfl,_,Eq.trans (World.drewN_drewN _ _ _) (congrArg (World.drewN _) (Nat.add_assoc _ _ _))⟩))|(go_at_call 48;(with_reducible refine (impl_in.calls ((rd_T57 l0_1 x20_2).f1) 0 2 true _ A20.out).mono ?_);rintro e w' ⟨rfl,⟨nd,rfl⟩⟩;(try first|exact ⟨rfl,_,World.drewN_drewN _ _ _⟩|exact ⟨rfl,_,Eq.trans (World.drewN_drewN _ _ _) (congrArg (World.drewN _) (Nat.add_assoc _ _ _))⟩))|(go_at_call 48;(with_reducible refine (impl_in.calls ((rd_T57 l0_1 x20_2).f2) 0 3 true _ A46.out).mono ?_);rintro e w' ⟨rfl,⟨nd,rfl⟩⟩;(try first|exact ⟨rfl,_,World.drewN_drewN _ _ _⟩|exact ⟨rfl,_,Eq.trans (World.drewN_drewN _ _ _) (congrArg (World.drewN _) (Nat.add_assoc _ _ _))⟩)))
        repeat (go_quiet (first|(go_at_call 48;(with_reducible refine (impl_in.calls ((rd_T57 l0_1 x20_2).f0) 0 6 true _ A18.out).mono ?_);rintro e w' ⟨rfl,⟨nd,rfl⟩⟩;(try first|exact ⟨rfl,_,World.drewN_drewN _ _ _⟩|exact ⟨rfl,_,Eq.trans (World.drewN_drewN _ _ _) (congrArg (World.drewN _) (Nat.add_assoc _ _ _))⟩))|(go_at_call 48;(with_reducible refine (impl_in.calls ((rd_T57 l0_1 x20_2).f1) 0 2 true _ A20.out).mono ?_);rintro e w' ⟨rfl,⟨nd,rfl⟩⟩;(try first|exact ⟨rfl,_,World.drewN_drewN _ _ _⟩|exact ⟨rfl,_,Eq.trans (World.drewN_drewN _ _ _) (congrArg (World.drewN _) (Nat.add_assoc _ _ _))⟩))|(go_at_call 48;(with_reducible refine (impl_in.calls ((rd_T57 l0_1 x20_2).f2) 0 3 true _ A46.out).mono ?_);rintro e w' ⟨rfl,⟨nd,rfl⟩⟩;(try first|exact ⟨rfl,_,World.drewN_drewN _ _ _⟩|exact ⟨rfl,_,Eq.trans (World.drewN_drewN _ _ _) (congrArg (World.drewN _) (Nat.add_assoc _ _ _))⟩)));try go_wp2_with (first|(go_at_call 48;(with_reducible refine (impl_in.calls ((rd_T57 l0_1 x20_2).f0) 0 6 true _ A18.out).mono ?_);rintro e w' ⟨rfl,⟨nd,rfl⟩⟩;(try first|exact ⟨rfl,_,World.drewN_drewN _ _ _⟩|exact ⟨rfl,_,Eq.trans (World.drewN_drewN _ _ _) (congrArg (World.drewN _) (Nat.add_assoc _ _ _))⟩))|(go_at_call 48;(with_reducible refine (impl_in.calls ((rd_T57 l0_1 x20_2).f1) 0 2 true _ A20.out).mono ?_);rintro e w' ⟨rfl,⟨nd,rfl⟩⟩;(try first|exact ⟨rfl,_,World.drewN_drewN _ _ _⟩|exact ⟨rfl,_,Eq.trans (World.drewN_drewN _ _ _) (congrArg (World.drewN _) (Nat.add_assoc _ _ _))⟩))|(go_at_call 48;(with_reducible refine (impl_in.calls ((rd_T57 l0_1 x20_2).f2) 0 3 true _ A46.out).mono ?_);rintro e w' ⟨rfl,⟨nd,rfl⟩⟩;(try first|exact ⟨rfl,_,World.drewN_drewN _ _ _⟩|exact ⟨rfl,_,Eq.trans (World.drewN_drewN _ _ _) (congrArg (World.drewN _) (Nat.add_assoc _ _ _))⟩))))
        any_goals first|exact absurd Nbq52.out.symm (by assumption)|exact absurd (Nbq52.out.trans (by assumption)) (by decide)|skip
        go_meet
        case rel=>(try rw [← Nbq52.out]);exact ⟨_,((((rd_T57 l0_1 x20_2).f0) != 3)),(by first|rfl|(simp;done)|(simp [*];done)),H',⟨by have:=Bi.out;have:=HK2.out;first|omega|exact nR _⟩,⟨by (with_reducible repeat (first|refine bN ?_ _|refine bD ?_|refine bA ?_ _|refine bE ?_ Bd.out _));exact Bc.out⟩,⟨by (with_reducible repeat (first|refine bN ?_ _|refine bD ?_|refine bA ?_ _));refine bT (cs:=#[.int .i64 ((rd_T57 l0_1 x20_2).f0),.int .i64 ((rd_T57 l0_1 x20_2).f1),.int .i64 ((rd_T57 l0_1 x20_2).f2),.bool false]) ?_ 3 _ rfl;(with_reducible repeat (first|refine bN ?_ _|refine bD ?_|refine bA ?_ _));refine bT (cs:=#[.int .i64 ((rd_T57 l0_1 x20_2).f0),.int .i64 ((rd_T57 l0_1 x20_2).f1),.int .i64 0,.bool false]) ?_ 2 _ rfl;(with_reducible repeat (first|refine bN ?_ _|refine bD ?_|refine bA ?_ _));refine bT (cs:=#[.int .i64 ((rd_T57 l0_1 x20_2).f0),.int .i64 0,.int .i64 0,.bool false]) ?_ 1 _ rfl;(with_reducible repeat (first|refine bN ?_ _|refine bD ?_|refine bA ?_ _));refine bT (cs:=#[.int .i64 0,.int .i64 0,.int .i64 0,.bool false]) ?_ 0 _ rfl;(with_reducible repeat (first|refine bN ?_ _|refine bD ?_|refine bA ?_ _));exact Ba.out⟩,⟨by repeat (first|(with_reducible first|exact HB.out|apply oA|apply pN|apply o1|refine bS ?_ Bg.out|refine bS ?_ Bh.out)|exact HB.out)⟩⟩
       replace c53:=Bool.eq_false_iff.mpr c53
       subst c53
       have H1:(impl_LockOk.j2 k2 x3_2 x20_2 l0_1 (l0_1.length:Int) x20_2 false a0_0 l0_1 l0_2 ((rd_T57 l0_1 x20_2).f0) ((rd_T57 l0_1 x20_2).f1) ((rd_T57 l0_1 x20_2).f2) false)=some r:=by rw [if_neg (show ¬ (false=true) by decide)] at H;exact H
       clear H
       have H:=H1
       clear H1
       have H':=Am H
       clear H
       have G3:=Bf.out
       have G4:=Bd.out
       have DY:=cz0 Ba.out
       have DZ:=cz1 Ba.out
       have D0:=cz2 Ba.out
       have D1:=cz3 Ba.out
       have D2:=bF Ba.out 0
       have D3:=bF Ba.out 1
       have D4:=bF Ba.out 2
       have D5:=bF Ba.out 3
       go_wp2_with (first|(go_at_call 48;(with_reducible refine (impl_in.calls ((rd_T57 l0_1 x20_2).f0) 0 6 true _ A18.out).mono ?_);rintro e w' ⟨rfl,⟨nd,rfl⟩⟩;(try first|exact ⟨rfl,_,World.drewN_drewN _ _ _⟩|exact ⟨rfl,_,Eq.trans (World.drewN_drewN _ _ _) (congrArg (World.drewN _) (Nat.add_assoc _ _ _))⟩))|(go_at_call 48;(with_reducible refine (impl_in.calls ((rd_T57 l0_1 x20_2).f1) 0 2 true _ A20.out).mono ?_);rintro e w' ⟨rfl,⟨nd,rfl⟩⟩;(try first|exact ⟨rfl,_,World.drewN_drewN _ _ _⟩|exact ⟨rfl,_,Eq.trans (World.drewN_drewN _ _ _) (congrArg (World.drewN _) (Nat.add_assoc _ _ _))⟩))|(go_at_call 48;(with_reducible refine (impl_in.calls ((rd_T57 l0_1 x20_2).f2) 0 3 true _ A46.out).mono ?_);rintro e w' ⟨rfl,⟨nd,rfl⟩⟩;(try first|exact ⟨rfl,_,World.drewN_drewN _ _ _⟩|exact ⟨rfl,_,Eq.trans (World.drewN_drewN _ _ _) (congrArg (World.drewN _) (Nat.add_assoc _ _ _))⟩)))
       repeat (go_quiet (first|(go_at_call 48;(with_reducible refine (impl_in.calls ((rd_T57 l0_1 x20_2).f0) 0 6 true _ A18.out).mono ?_);rintro e w' ⟨rfl,⟨nd,rfl⟩⟩;(try first|exact ⟨rfl,_,World.drewN_drewN _ _ _⟩|exact ⟨rfl,_,Eq.trans (World.drewN_drewN _ _ _) (congrArg (World.drewN _) (Nat.add_assoc _ _ _))⟩))|(go_at_call 48;(with_reducible refine (impl_in.calls ((rd_T57 l0_1 x20_2).f1) 0 2 true _ A20.out).mono ?_);rintro e w' ⟨rfl,⟨nd,rfl⟩⟩;(try first|exact ⟨rfl,_,World.drewN_drewN _ _ _⟩|exact ⟨rfl,_,Eq.trans (World.drewN_drewN _ _ _) (congrArg (World.drewN _) (Nat.add_assoc _ _ _))⟩))|(go_at_call 48;(with_reducible refine (impl_in.calls ((rd_T57 l0_1 x20_2).f2) 0 3 true _ A46.out).mono ?_);rintro e w' ⟨rfl,⟨nd,rfl⟩⟩;(try first|exact ⟨rfl,_,World.drewN_drewN _ _ _⟩|exact ⟨rfl,_,Eq.trans (World.drewN_drewN _ _ _) (congrArg (World.drewN _) (Nat.add_assoc _ _ _))⟩)));try go_wp2_with (first|(go_at_call 48;(with_reducible refine (impl_in.calls ((rd_T57 l0_1 x20_2).f0) 0 6 true _ A18.out).mono ?_);rintro e w' ⟨rfl,⟨nd,rfl⟩⟩;(try first|exact ⟨rfl,_,World.drewN_drewN _ _ _⟩|exact ⟨rfl,_,Eq.trans (World.drewN_drewN _ _ _) (congrArg (World.drewN _) (Nat.add_assoc _ _ _))⟩))|(go_at_call 48;(with_reducible refine (impl_in.calls ((rd_T57 l0_1 x20_2).f1) 0 2 true _ A20.out).mono ?_);rintro e w' ⟨rfl,⟨nd,rfl⟩⟩;(try first|exact ⟨rfl,_,World.drewN_drewN _ _ _⟩|exact ⟨rfl,_,Eq.trans (World.drewN_drewN _ _ _) (congrArg (World.drewN _) (Nat.add_assoc _ _ _))⟩))|(go_at_call 48;(with_reducible refine (impl_in.calls ((rd_T57 l0_1 x20_2).f2) 0 3 true _ A46.out).mono ?_);rintro e w' ⟨rfl,⟨nd,rfl⟩⟩;(try first|exact ⟨rfl,_,World.drewN_drewN _ _ _⟩|exact ⟨rfl,_,Eq.trans (World.drewN_drewN _ _ _) (congrArg (World.drewN _) (Nat.add_assoc _ _ _))⟩))))
       any_goals first|exact absurd Nbq52.out.symm (by assumption)|exact absurd (Nbq52.out.trans (by assumption)) (by decide)|skip
       go_meet
       case rel=>(try rw [← Nbq52.out]);exact ⟨_,(false),(by first|rfl|(simp;done)|(simp [*];done)),H',⟨by have:=Bi.out;have:=HK2.out;first|omega|exact nR _⟩,⟨by (with_reducible repeat (first|refine bN ?_ _|refine bD ?_|refine bA ?_ _|refine bE ?_ Bd.out _));exact Bc.out⟩,⟨by (with_reducible repeat (first|refine bN ?_ _|refine bD ?_|refine bA ?_ _));refine bT (cs:=#[.int .i64 ((rd_T57 l0_1 x20_2).f0),.int .i64 ((rd_T57 l0_1 x20_2).f1),.int .i64 ((rd_T57 l0_1 x20_2).f2),.bool false]) ?_ 3 _ rfl;(with_reducible repeat (first|refine bN ?_ _|refine bD ?_|refine bA ?_ _));refine bT (cs:=#[.int .i64 ((rd_T57 l0_1 x20_2).f0),.int .i64 ((rd_T57 l0_1 x20_2).f1),.int .i64 0,.bool false]) ?_ 2 _ rfl;(with_reducible repeat (first|refine bN ?_ _|refine bD ?_|refine bA ?_ _));refine bT (cs:=#[.int .i64 ((rd_T57 l0_1 x20_2).f0),.int .i64 0,.int .i64 0,.bool false]) ?_ 1 _ rfl;(with_reducible repeat (first|refine bN ?_ _|refine bD ?_|refine bA ?_ _));refine bT (cs:=#[.int .i64 0,.int .i64 0,.int .i64 0,.bool false]) ?_ 0 _ rfl;(with_reducible repeat (first|refine bN ?_ _|refine bD ?_|refine bA ?_ _));exact Ba.out⟩,⟨by repeat (first|(with_reducible first|exact HB.out|apply oA|apply pN|apply o1|refine bS ?_ Bg.out|refine bS ?_ Bh.out)|exact HB.out)⟩⟩
      rw [if_pos c22] at H
      have c22b0:decide (0<((rd_T57 l0_1 x20_2).f1))=true:=dT c22
      clear c22
      (first|rw [c22b0]|(simp only [i64_w,i32_w];rw [c22b0])|skip)
      by_cases c23:((rd_T57 l0_1 x20_2).f0)=1
      rotate_left
      ·rw [if_neg c23] at H
       have c23b0:(((rd_T57 l0_1 x20_2).f0) == 1)=false:=beq_eq_false_iff_ne.mpr c23
       have c23b1:(((rd_T57 l0_1 x20_2).f0) != 1)=true:=bne_iff_ne.mpr c23
       have H':=Am H
       clear H
       have GX:=Bf.out
       have GY:=Bd.out
       have DA:=cz0 Ba.out
       have DB:=cz1 Ba.out
       have DC:=cz2 Ba.out
       have DD:=cz3 Ba.out
       have DE:=bF Ba.out 0
       have DF:=bF Ba.out 1
       have DG:=bF Ba.out 2
       have DH:=bF Ba.out 3
       go_wp2_with (first|(go_at_call 48;(with_reducible refine (impl_in.calls ((rd_T57 l0_1 x20_2).f0) 0 6 true _ A18.out).mono ?_);rintro e w' ⟨rfl,⟨nd,rfl⟩⟩;(try first|exact ⟨rfl,_,World.drewN_drewN _ _ _⟩|exact ⟨rfl,_,Eq.trans (World.drewN_drewN _ _ _) (congrArg (World.drewN _) (Nat.add_assoc _ _ _))⟩))|(go_at_call 48;(with_reducible refine (impl_in.calls ((rd_T57 l0_1 x20_2).f1) 0 2 true _ A20.out).mono ?_);rintro e w' ⟨rfl,⟨nd,rfl⟩⟩;(try first|exact ⟨rfl,_,World.drewN_drewN _ _ _⟩|exact ⟨rfl,_,Eq.trans (World.drewN_drewN _ _ _) (congrArg (World.drewN _) (Nat.add_assoc _ _ _))⟩)))
       repeat (go_quiet (first|(go_at_call 48;(with_reducible refine (impl_in.calls ((rd_T57 l0_1 x20_2).f0) 0 6 true _ A18.out).mono ?_);rintro e w' ⟨rfl,⟨nd,rfl⟩⟩;(try first|exact ⟨rfl,_,World.drewN_drewN _ _ _⟩|exact ⟨rfl,_,Eq.trans (World.drewN_drewN _ _ _) (congrArg (World.drewN _) (Nat.add_assoc _ _ _))⟩))|(go_at_call 48;(with_reducible refine (impl_in.calls ((rd_T57 l0_1 x20_2).f1) 0 2 true _ A20.out).mono ?_);rintro e w' ⟨rfl,⟨nd,rfl⟩⟩;(try first|exact ⟨rfl,_,World.drewN_drewN _ _ _⟩|exact ⟨rfl,_,Eq.trans (World.drewN_drewN _ _ _) (congrArg (World.drewN _) (Nat.add_assoc _ _ _))⟩)));try go_wp2_with (first|(go_at_call 48;(with_reducible refine (impl_in.calls ((rd_T57 l0_1 x20_2).f0) 0 6 true _ A18.out).mono ?_);rintro e w' ⟨rfl,⟨nd,rfl⟩⟩;(try first|exact ⟨rfl,_,World.drewN_drewN _ _ _⟩|exact ⟨rfl,_,Eq.trans (World.drewN_drewN _ _ _) (congrArg (World.drewN _) (Nat.add_assoc _ _ _))⟩))|(go_at_call 48;(with_reducible refine (impl_in.calls ((rd_T57 l0_1 x20_2).f1) 0 2 true _ A20.out).mono ?_);rintro e w' ⟨rfl,⟨nd,rfl⟩⟩;(try first|exact ⟨rfl,_,World.drewN_drewN _ _ _⟩|exact ⟨rfl,_,Eq.trans (World.drewN_drewN _ _ _) (congrArg (World.drewN _) (Nat.add_assoc _ _ _))⟩))))
       go_meet
       case rel=>exact ⟨_,(true),(by first|rfl|(simp;done)|(simp [*];done)),H',⟨by have:=Bi.out;have:=HK2.out;first|omega|exact nR _⟩,⟨by (with_reducible repeat (first|refine bN ?_ _|refine bD ?_|refine bA ?_ _|refine bE ?_ Bd.out _));exact Bc.out⟩,⟨by (with_reducible repeat (first|refine bN ?_ _|refine bD ?_|refine bA ?_ _));refine bT (cs:=#[.int .i64 ((rd_T57 l0_1 x20_2).f0),.int .i64 ((rd_T57 l0_1 x20_2).f1),.int .i64 ((rd_T57 l0_1 x20_2).f2),.bool false]) ?_ 3 _ rfl;(with_reducible repeat (first|refine bN ?_ _|refine bD ?_|refine bA ?_ _));refine bT (cs:=#[.int .i64 ((rd_T57 l0_1 x20_2).f0),.int .i64 ((rd_T57 l0_1 x20_2).f1),.int .i64 0,.bool false]) ?_ 2 _ rfl;(with_reducible repeat (first|refine bN ?_ _|refine bD ?_|refine bA ?_ _));refine bT (cs:=#[.int .i64 ((rd_T57 l0_1 x20_2).f0),.int .i64 0,.int .i64 0,.bool false]) ?_ 1 _ rfl;(with_reducible repeat (first|refine bN ?_ _|refine bD ?_|refine bA ?_ _));refine bT (cs:=#[.int .i64 0,.int .i64 0,.int .i64 0,.bool false]) ?_ 0 _ rfl;(with_reducible repeat (first|refine bN ?_ _|refine bD ?_|refine bA ?_ _));exact Ba.out⟩,⟨by repeat (first|(with_reducible first|exact HB.out|apply oA|apply pN|apply o1|refine bS ?_ Bg.out|refine bS ?_ Bh.out)|exact HB.out)⟩⟩
      rw [if_pos c23] at H
      have c23b0:(((rd_T57 l0_1 x20_2).f0) == 1)=true:=beq_iff_eq.mpr c23
      have c23b1:(((rd_T57 l0_1 x20_2).f0) != 1)=false:=bne_eq_false_iff_eq.mpr c23
      clear c23
      replace H:=oC H
      obtain ⟨t151,A240,H⟩:=H
      replace H:(if t151=true then (if ((rd_T57 l0_1 x20_2).f0) > 0 then (if ((rd_T57 l0_1 x20_2).f2)=0 then (impl_LockOk.j2 k2 x3_2 x20_2 l0_1 (l0_1.length:Int) x20_2 true a0_0 l0_1 l0_2 ((rd_T57 l0_1 x20_2).f0) ((rd_T57 l0_1 x20_2).f1) ((rd_T57 l0_1 x20_2).f2) ((rd_T57 l0_1 x20_2).f3)) else (if (rd_T57 l0_1 x20_2).f3=true then (impl_LockOk.j2 k2 x3_2 x20_2 l0_1 (l0_1.length:Int) x20_2 (((rd_T57 l0_1 x20_2).f0) != 3) a0_0 l0_1 l0_2 ((rd_T57 l0_1 x20_2).f0) ((rd_T57 l0_1 x20_2).f1) ((rd_T57 l0_1 x20_2).f2) ((rd_T57 l0_1 x20_2).f3)) else (impl_LockOk.j2 k2 x3_2 x20_2 l0_1 (l0_1.length:Int) x20_2 false a0_0 l0_1 l0_2 ((rd_T57 l0_1 x20_2).f0) ((rd_T57 l0_1 x20_2).f1) ((rd_T57 l0_1 x20_2).f2) ((rd_T57 l0_1 x20_2).f3)))) else (if (rd_T57 l0_1 x20_2).f3=true then (impl_LockOk.j2 k2 x3_2 x20_2 l0_1 (l0_1.length:Int) x20_2 (((rd_T57 l0_1 x20_2).f0) != 3) a0_0 l0_1 l0_2 ((rd_T57 l0_1 x20_2).f0) ((rd_T57 l0_1 x20_2).f1) ((rd_T57 l0_1 x20_2).f2) ((rd_T57 l0_1 x20_2).f3)) else (impl_LockOk.j2 k2 x3_2 x20_2 l0_1 (l0_1.length:Int) x20_2 false a0_0 l0_1 l0_2 ((rd_T57 l0_1 x20_2).f0) ((rd_T57 l0_1 x20_2).f1) ((rd_T57 l0_1 x20_2).f2) ((rd_T57 l0_1 x20_2).f3)))) else (impl_LockOk.j2 k2 x3_2 x20_2 l0_1 (l0_1.length:Int) x20_2 true a0_0 l0_1 l0_2 ((rd_T57 l0_1 x20_2).f0) ((rd_T57 l0_1 x20_2).f1) ((rd_T57 l0_1 x20_2).f2) ((rd_T57 l0_1 x20_2).f3)))=some r:=H
      have A24:=Am A240
      clear A240
      by_cases c25:t151=true
      rotate_left
      ·replace c25:=Bool.eq_false_iff.mpr c25
       subst c25
       have H1:(impl_LockOk.j2 k2 x3_2 x20_2 l0_1 (l0_1.length:Int) x20_2 true a0_0 l0_1 l0_2 ((rd_T57 l0_1 x20_2).f0) ((rd_T57 l0_1 x20_2).f1) ((rd_T57 l0_1 x20_2).f2) ((rd_T57 l0_1 x20_2).f3))=some r:=by rw [if_neg (show ¬ (false=true) by decide)] at H;exact H
       clear H
       have H:=H1
       clear H1
       have H':=Am H
       clear H
       have GV:=Bf.out
       have GW:=Bd.out
       have Ds:=cz0 Ba.out
       have Dt:=cz1 Ba.out
       have Du:=cz2 Ba.out
       have Dv:=cz3 Ba.out
       have Dw:=bF Ba.out 0
       have Dx:=bF Ba.out 1
       have Dy:=bF Ba.out 2
       have Dz:=bF Ba.out 3
       go_wp2_with (first|(go_at_call 48;(with_reducible refine (impl_in.calls ((rd_T57 l0_1 x20_2).f0) 0 6 true _ A18.out).mono ?_);rintro e w' ⟨rfl,⟨nd,rfl⟩⟩;(try first|exact ⟨rfl,_,World.drewN_drewN _ _ _⟩|exact ⟨rfl,_,Eq.trans (World.drewN_drewN _ _ _) (congrArg (World.drewN _) (Nat.add_assoc _ _ _))⟩))|(go_at_call 48;(with_reducible refine (impl_in.calls ((rd_T57 l0_1 x20_2).f1) 0 2 true _ A20.out).mono ?_);rintro e w' ⟨rfl,⟨nd,rfl⟩⟩;(try first|exact ⟨rfl,_,World.drewN_drewN _ _ _⟩|exact ⟨rfl,_,Eq.trans (World.drewN_drewN _ _ _) (congrArg (World.drewN _) (Nat.add_assoc _ _ _))⟩))|(go_at_call 48;(with_reducible refine (impl_in.calls ((rd_T57 l0_1 x20_2).f2) 0 3 false _ A24.out).mono ?_);rintro e w' ⟨rfl,⟨nd,rfl⟩⟩;(try first|exact ⟨rfl,_,World.drewN_drewN _ _ _⟩|exact ⟨rfl,_,Eq.trans (World.drewN_drewN _ _ _) (congrArg (World.drewN _) (Nat.add_assoc _ _ _))⟩)))
       repeat (go_quiet (first|(go_at_call 48;(with_reducible refine (impl_in.calls ((rd_T57 l0_1 x20_2).f0) 0 6 true _ A18.out).mono ?_);rintro e w' ⟨rfl,⟨nd,rfl⟩⟩;(try first|exact ⟨rfl,_,World.drewN_drewN _ _ _⟩|exact ⟨rfl,_,Eq.trans (World.drewN_drewN _ _ _) (congrArg (World.drewN _) (Nat.add_assoc _ _ _))⟩))|(go_at_call 48;(with_reducible refine (impl_in.calls ((rd_T57 l0_1 x20_2).f1) 0 2 true _ A20.out).mono ?_);rintro e w' ⟨rfl,⟨nd,rfl⟩⟩;(try first|exact ⟨rfl,_,World.drewN_drewN _ _ _⟩|exact ⟨rfl,_,Eq.trans (World.drewN_drewN _ _ _) (congrArg (World.drewN _) (Nat.add_assoc _ _ _))⟩))|(go_at_call 48;(with_reducible refine (impl_in.calls ((rd_T57 l0_1 x20_2).f2) 0 3 false _ A24.out).mono ?_);rintro e w' ⟨rfl,⟨nd,rfl⟩⟩;(try first|exact ⟨rfl,_,World.drewN_drewN _ _ _⟩|exact ⟨rfl,_,Eq.trans (World.drewN_drewN _ _ _) (congrArg (World.drewN _) (Nat.add_assoc _ _ _))⟩)));try go_wp2_with (first|(go_at_call 48;(with_reducible refine (impl_in.calls ((rd_T57 l0_1 x20_2).f0) 0 6 true _ A18.out).mono ?_);rintro e w' ⟨rfl,⟨nd,rfl⟩⟩;(try first|exact ⟨rfl,_,World.drewN_drewN _ _ _⟩|exact ⟨rfl,_,Eq.trans (World.drewN_drewN _ _ _) (congrArg (World.drewN _) (Nat.add_assoc _ _ _))⟩))|(go_at_call 48;(with_reducible refine (impl_in.calls ((rd_T57 l0_1 x20_2).f1) 0 2 true _ A20.out).mono ?_);rintro e w' ⟨rfl,⟨nd,rfl⟩⟩;(try first|exact ⟨rfl,_,World.drewN_drewN _ _ _⟩|exact ⟨rfl,_,Eq.trans (World.drewN_drewN _ _ _) (congrArg (World.drewN _) (Nat.add_assoc _ _ _))⟩))|(go_at_call 48;(with_reducible refine (impl_in.calls ((rd_T57 l0_1 x20_2).f2) 0 3 false _ A24.out).mono ?_);rintro e w' ⟨rfl,⟨nd,rfl⟩⟩;(try first|exact ⟨rfl,_,World.drewN_drewN _ _ _⟩|exact ⟨rfl,_,Eq.trans (World.drewN_drewN _ _ _) (congrArg (World.drewN _) (Nat.add_assoc _ _ _))⟩))))
       go_meet
       case rel=>exact ⟨_,(true),(by first|rfl|(simp;done)|(simp [*];done)),H',⟨by have:=Bi.out;have:=HK2.out;first|omega|exact nR _⟩,⟨by (with_reducible repeat (first|refine bN ?_ _|refine bD ?_|refine bA ?_ _|refine bE ?_ Bd.out _));exact Bc.out⟩,⟨by (with_reducible repeat (first|refine bN ?_ _|refine bD ?_|refine bA ?_ _));refine bT (cs:=#[.int .i64 ((rd_T57 l0_1 x20_2).f0),.int .i64 ((rd_T57 l0_1 x20_2).f1),.int .i64 ((rd_T57 l0_1 x20_2).f2),.bool false]) ?_ 3 _ rfl;(with_reducible repeat (first|refine bN ?_ _|refine bD ?_|refine bA ?_ _));refine bT (cs:=#[.int .i64 ((rd_T57 l0_1 x20_2).f0),.int .i64 ((rd_T57 l0_1 x20_2).f1),.int .i64 0,.bool false]) ?_ 2 _ rfl;(with_reducible repeat (first|refine bN ?_ _|refine bD ?_|refine bA ?_ _));refine bT (cs:=#[.int .i64 ((rd_T57 l0_1 x20_2).f0),.int .i64 0,.int .i64 0,.bool false]) ?_ 1 _ rfl;(with_reducible repeat (first|refine bN ?_ _|refine bD ?_|refine bA ?_ _));refine bT (cs:=#[.int .i64 0,.int .i64 0,.int .i64 0,.bool false]) ?_ 0 _ rfl;(with_reducible repeat (first|refine bN ?_ _|refine bD ?_|refine bA ?_ _));exact Ba.out⟩,⟨by repeat (first|(with_reducible first|exact HB.out|apply oA|apply pN|apply o1|refine bS ?_ Bg.out|refine bS ?_ Bh.out)|exact HB.out)⟩⟩
      subst c25
      have H1:(if ((rd_T57 l0_1 x20_2).f0) > 0 then (if ((rd_T57 l0_1 x20_2).f2)=0 then (impl_LockOk.j2 k2 x3_2 x20_2 l0_1 (l0_1.length:Int) x20_2 true a0_0 l0_1 l0_2 ((rd_T57 l0_1 x20_2).f0) ((rd_T57 l0_1 x20_2).f1) ((rd_T57 l0_1 x20_2).f2) ((rd_T57 l0_1 x20_2).f3)) else (if (rd_T57 l0_1 x20_2).f3=true then (impl_LockOk.j2 k2 x3_2 x20_2 l0_1 (l0_1.length:Int) x20_2 (((rd_T57 l0_1 x20_2).f0) != 3) a0_0 l0_1 l0_2 ((rd_T57 l0_1 x20_2).f0) ((rd_T57 l0_1 x20_2).f1) ((rd_T57 l0_1 x20_2).f2) ((rd_T57 l0_1 x20_2).f3)) else (impl_LockOk.j2 k2 x3_2 x20_2 l0_1 (l0_1.length:Int) x20_2 false a0_0 l0_1 l0_2 ((rd_T57 l0_1 x20_2).f0) ((rd_T57 l0_1 x20_2).f1) ((rd_T57 l0_1 x20_2).f2) ((rd_T57 l0_1 x20_2).f3)))) else (if (rd_T57 l0_1 x20_2).f3=true then (impl_LockOk.j2 k2 x3_2 x20_2 l0_1 (l0_1.length:Int) x20_2 (((rd_T57 l0_1 x20_2).f0) != 3) a0_0 l0_1 l0_2 ((rd_T57 l0_1 x20_2).f0) ((rd_T57 l0_1 x20_2).f1) ((rd_T57 l0_1 x20_2).f2) ((rd_T57 l0_1 x20_2).f3)) else (impl_LockOk.j2 k2 x3_2 x20_2 l0_1 (l0_1.length:Int) x20_2 false a0_0 l0_1 l0_2 ((rd_T57 l0_1 x20_2).f0) ((rd_T57 l0_1 x20_2).f1) ((rd_T57 l0_1 x20_2).f2) ((rd_T57 l0_1 x20_2).f3))))=some r:=by rw [if_pos rfl] at H;exact H
      clear H
      have H:=H1
      clear H1
      by_cases c26:((rd_T57 l0_1 x20_2).f0) > 0
      rotate_left
      ·rw [if_neg c26] at H
       have c26b0:decide (0<((rd_T57 l0_1 x20_2).f0))=false:=dF c26
       clear c26
       obtain ⟨bq36,hbq36⟩:∃ b_:Bool,b_=((rd_T57 l0_1 x20_2).f3):=⟨_,rfl⟩
       replace H:(if bq36=true then (impl_LockOk.j2 k2 x3_2 x20_2 l0_1 (l0_1.length:Int) x20_2 (((rd_T57 l0_1 x20_2).f0) != 3) a0_0 l0_1 l0_2 ((rd_T57 l0_1 x20_2).f0) ((rd_T57 l0_1 x20_2).f1) ((rd_T57 l0_1 x20_2).f2) bq36) else (impl_LockOk.j2 k2 x3_2 x20_2 l0_1 (l0_1.length:Int) x20_2 false a0_0 l0_1 l0_2 ((rd_T57 l0_1 x20_2).f0) ((rd_T57 l0_1 x20_2).f1) ((rd_T57 l0_1 x20_2).f2) bq36))=some r:=by rw [← hbq36] at H;exact H
       have Nbq36:=Am hbq36
       clear hbq36
       by_cases c37:bq36=true
       ·subst c37
        have H1:(impl_LockOk.j2 k2 x3_2 x20_2 l0_1 (l0_1.length:Int) x20_2 (((rd_T57 l0_1 x20_2).f0) != 3) a0_0 l0_1 l0_2 ((rd_T57 l0_1 x20_2).f0) ((rd_T57 l0_1 x20_2).f1) ((rd_T57 l0_1 x20_2).f2) true)=some r:=by rw [if_pos rfl] at H;exact H
        clear H
        have H:=H1
        clear H1
        have H':=Am H
        clear H
        have GR:=Bf.out
        have GS:=Bd.out
        have Dc:=cz0 Ba.out
        have Dd:=cz1 Ba.out
        have De:=cz2 Ba.out
        have Df:=cz3 Ba.out
        have Dg:=bF Ba.out 0
        have Dh:=bF Ba.out 1
        have Di:=bF Ba.out 2
        have Dj:=bF Ba.out 3
        go_wp2_with (first|(go_at_call 48;(with_reducible refine (impl_in.calls ((rd_T57 l0_1 x20_2).f0) 0 6 true _ A18.out).mono ?_);rintro e w' ⟨rfl,⟨nd,rfl⟩⟩;(try first|exact ⟨rfl,_,World.drewN_drewN _ _ _⟩|exact ⟨rfl,_,Eq.trans (World.drewN_drewN _ _ _) (congrArg (World.drewN _) (Nat.add_assoc _ _ _))⟩))|(go_at_call 48;(with_reducible refine (impl_in.calls ((rd_T57 l0_1 x20_2).f1) 0 2 true _ A20.out).mono ?_);rintro e w' ⟨rfl,⟨nd,rfl⟩⟩;(try first|exact ⟨rfl,_,World.drewN_drewN _ _ _⟩|exact ⟨rfl,_,Eq.trans (World.drewN_drewN _ _ _) (congrArg (World.drewN _) (Nat.add_assoc _ _ _))⟩))|(go_at_call 48;(with_reducible refine (impl_in.calls ((rd_T57 l0_1 x20_2).f2) 0 3 true _ A24.out).mono ?_);rintro e w' ⟨rfl,⟨nd,rfl⟩⟩;(try first|exact ⟨rfl,_,World.drewN_drewN _ _ _⟩|exact ⟨rfl,_,Eq.trans (World.drewN_drewN _ _ _) (congrArg (World.drewN _) (Nat.add_assoc _ _ _))⟩)))
        repeat (go_quiet (first|(go_at_call 48;(with_reducible refine (impl_in.calls ((rd_T57 l0_1 x20_2).f0) 0 6 true _ A18.out).mono ?_);rintro e w' ⟨rfl,⟨nd,rfl⟩⟩;(try first|exact ⟨rfl,_,World.drewN_drewN _ _ _⟩|exact ⟨rfl,_,Eq.trans (World.drewN_drewN _ _ _) (congrArg (World.drewN _) (Nat.add_assoc _ _ _))⟩))|(go_at_call 48;(with_reducible refine (impl_in.calls ((rd_T57 l0_1 x20_2).f1) 0 2 true _ A20.out).mono ?_);rintro e w' ⟨rfl,⟨nd,rfl⟩⟩;(try first|exact ⟨rfl,_,World.drewN_drewN _ _ _⟩|exact ⟨rfl,_,Eq.trans (World.drewN_drewN _ _ _) (congrArg (World.drewN _) (Nat.add_assoc _ _ _))⟩))|(go_at_call 48;(with_reducible refine (impl_in.calls ((rd_T57 l0_1 x20_2).f2) 0 3 true _ A24.out).mono ?_);rintro e w' ⟨rfl,⟨nd,rfl⟩⟩;(try first|exact ⟨rfl,_,World.drewN_drewN _ _ _⟩|exact ⟨rfl,_,Eq.trans (World.drewN_drewN _ _ _) (congrArg (World.drewN _) (Nat.add_assoc _ _ _))⟩)));try go_wp2_with (first|(go_at_call 48;(with_reducible refine (impl_in.calls ((rd_T57 l0_1 x20_2).f0) 0 6 true _ A18.out).mono ?_);rintro e w' ⟨rfl,⟨nd,rfl⟩⟩;(try first|exact ⟨rfl,_,World.drewN_drewN _ _ _⟩|exact ⟨rfl,_,Eq.trans (World.drewN_drewN _ _ _) (congrArg (World.drewN _) (Nat.add_assoc _ _ _))⟩))|(go_at_call 48;(with_reducible refine (impl_in.calls ((rd_T57 l0_1 x20_2).f1) 0 2 true _ A20.out).mono ?_);rintro e w' ⟨rfl,⟨nd,rfl⟩⟩;(try first|exact ⟨rfl,_,World.drewN_drewN _ _ _⟩|exact ⟨rfl,_,Eq.trans (World.drewN_drewN _ _ _) (congrArg (World.drewN _) (Nat.add_assoc _ _ _))⟩))|(go_at_call 48;(with_reducible refine (impl_in.calls ((rd_T57 l0_1 x20_2).f2) 0 3 true _ A24.out).mono ?_);rintro e w' ⟨rfl,⟨nd,rfl⟩⟩;(try first|exact ⟨rfl,_,World.drewN_drewN _ _ _⟩|exact ⟨rfl,_,Eq.trans (World.drewN_drewN _ _ _) (congrArg (World.drewN _) (Nat.add_assoc _ _ _))⟩))))
        any_goals first|exact absurd Nbq36.out.symm (by assumption)|exact absurd (Nbq36.out.trans (by assumption)) (by decide)|skip
        go_meet
        case rel=>(try rw [← Nbq36.out]);exact ⟨_,((((rd_T57 l0_1 x20_2).f0) != 3)),(by first|rfl|(simp;done)|(simp [*];done)),H',⟨by have:=Bi.out;have:=HK2.out;first|omega|exact nR _⟩,⟨by (with_reducible repeat (first|refine bN ?_ _|refine bD ?_|refine bA ?_ _|refine bE ?_ Bd.out _));exact Bc.out⟩,⟨by (with_reducible repeat (first|refine bN ?_ _|refine bD ?_|refine bA ?_ _));refine bT (cs:=#[.int .i64 ((rd_T57 l0_1 x20_2).f0),.int .i64 ((rd_T57 l0_1 x20_2).f1),.int .i64 ((rd_T57 l0_1 x20_2).f2),.bool false]) ?_ 3 _ rfl;(with_reducible repeat (first|refine bN ?_ _|refine bD ?_|refine bA ?_ _));refine bT (cs:=#[.int .i64 ((rd_T57 l0_1 x20_2).f0),.int .i64 ((rd_T57 l0_1 x20_2).f1),.int .i64 0,.bool false]) ?_ 2 _ rfl;(with_reducible repeat (first|refine bN ?_ _|refine bD ?_|refine bA ?_ _));refine bT (cs:=#[.int .i64 ((rd_T57 l0_1 x20_2).f0),.int .i64 0,.int .i64 0,.bool false]) ?_ 1 _ rfl;(with_reducible repeat (first|refine bN ?_ _|refine bD ?_|refine bA ?_ _));refine bT (cs:=#[.int .i64 0,.int .i64 0,.int .i64 0,.bool false]) ?_ 0 _ rfl;(with_reducible repeat (first|refine bN ?_ _|refine bD ?_|refine bA ?_ _));exact Ba.out⟩,⟨by repeat (first|(with_reducible first|exact HB.out|apply oA|apply pN|apply o1|refine bS ?_ Bg.out|refine bS ?_ Bh.out)|exact HB.out)⟩⟩
       replace c37:=Bool.eq_false_iff.mpr c37
       subst c37
       have H1:(impl_LockOk.j2 k2 x3_2 x20_2 l0_1 (l0_1.length:Int) x20_2 false a0_0 l0_1 l0_2 ((rd_T57 l0_1 x20_2).f0) ((rd_T57 l0_1 x20_2).f1) ((rd_T57 l0_1 x20_2).f2) false)=some r:=by rw [if_neg (show ¬ (false=true) by decide)] at H;exact H
       clear H
       have H:=H1
       clear H1
       have H':=Am H
       clear H
       have GT:=Bf.out
       have GU:=Bd.out
       have Dk:=cz0 Ba.out
       have Dl:=cz1 Ba.out
       have Dm:=cz2 Ba.out
       have Dn:=cz3 Ba.out
       have Do:=bF Ba.out 0
       have Dp:=bF Ba.out 1
       have Dq:=bF Ba.out 2
       have Dr:=bF Ba.out 3
       go_wp2_with (first|(go_at_call 48;(with_reducible refine (impl_in.calls ((rd_T57 l0_1 x20_2).f0) 0 6 true _ A18.out).mono ?_);rintro e w' ⟨rfl,⟨nd,rfl⟩⟩;(try first|exact ⟨rfl,_,World.drewN_drewN _ _ _⟩|exact ⟨rfl,_,Eq.trans (World.drewN_drewN _ _ _) (congrArg (World.drewN _) (Nat.add_assoc _ _ _))⟩))|(go_at_call 48;(with_reducible refine (impl_in.calls ((rd_T57 l0_1 x20_2).f1) 0 2 true _ A20.out).mono ?_);rintro e w' ⟨rfl,⟨nd,rfl⟩⟩;(try first|exact ⟨rfl,_,World.drewN_drewN _ _ _⟩|exact ⟨rfl,_,Eq.trans (World.drewN_drewN _ _ _) (congrArg (World.drewN _) (Nat.add_assoc _ _ _))⟩))|(go_at_call 48;(with_reducible refine (impl_in.calls ((rd_T57 l0_1 x20_2).f2) 0 3 true _ A24.out).mono ?_);rintro e w' ⟨rfl,⟨nd,rfl⟩⟩;(try first|exact ⟨rfl,_,World.drewN_drewN _ _ _⟩|exact ⟨rfl,_,Eq.trans (World.drewN_drewN _ _ _) (congrArg (World.drewN _) (Nat.add_assoc _ _ _))⟩)))
       repeat (go_quiet (first|(go_at_call 48;(with_reducible refine (impl_in.calls ((rd_T57 l0_1 x20_2).f0) 0 6 true _ A18.out).mono ?_);rintro e w' ⟨rfl,⟨nd,rfl⟩⟩;(try first|exact ⟨rfl,_,World.drewN_drewN _ _ _⟩|exact ⟨rfl,_,Eq.trans (World.drewN_drewN _ _ _) (congrArg (World.drewN _) (Nat.add_assoc _ _ _))⟩))|(go_at_call 48;(with_reducible refine (impl_in.calls ((rd_T57 l0_1 x20_2).f1) 0 2 true _ A20.out).mono ?_);rintro e w' ⟨rfl,⟨nd,rfl⟩⟩;(try first|exact ⟨rfl,_,World.drewN_drewN _ _ _⟩|exact ⟨rfl,_,Eq.trans (World.drewN_drewN _ _ _) (congrArg (World.drewN _) (Nat.add_assoc _ _ _))⟩))|(go_at_call 48;(with_reducible refine (impl_in.calls ((rd_T57 l0_1 x20_2).f2) 0 3 true _ A24.out).mono ?_);rintro e w' ⟨rfl,⟨nd,rfl⟩⟩;(try first|exact ⟨rfl,_,World.drewN_drewN _ _ _⟩|exact ⟨rfl,_,Eq.trans (World.drewN_drewN _ _ _) (congrArg (World.drewN _) (Nat.add_assoc _ _ _))⟩)));try go_wp2_with (first|(go_at_call 48;(with_reducible refine (impl_in.calls ((rd_T57 l0_1 x20_2).f0) 0 6 true _ A18.out).mono ?_);rintro e w' ⟨rfl,⟨nd,rfl⟩⟩;(try first|exact ⟨rfl,_,World.drewN_drewN _ _ _⟩|exact ⟨rfl,_,Eq.trans (World.drewN_drewN _ _ _) (congrArg (World.drewN _) (Nat.add_assoc _ _ _))⟩))|(go_at_call 48;(with_reducible refine (impl_in.calls ((rd_T57 l0_1 x20_2).f1) 0 2 true _ A20.out).mono ?_);rintro e w' ⟨rfl,⟨nd,rfl⟩⟩;(try first|exact ⟨rfl,_,World.drewN_drewN _ _ _⟩|exact ⟨rfl,_,Eq.trans (World.drewN_drewN _ _ _) (congrArg (World.drewN _) (Nat.add_assoc _ _ _))⟩))|(go_at_call 48;(with_reducible refine (impl_in.calls ((rd_T57 l0_1 x20_2).f2) 0 3 true _ A24.out).mono ?_);rintro e w' ⟨rfl,⟨nd,rfl⟩⟩;(try first|exact ⟨rfl,_,World.drewN_drewN _ _ _⟩|exact ⟨rfl,_,Eq.trans (World.drewN_drewN _ _ _) (congrArg (World.drewN _) (Nat.add_assoc _ _ _))⟩))))
       any_goals first|exact absurd Nbq36.out.symm (by assumption)|exact absurd (Nbq36.out.trans (by assumption)) (by decide)|skip
       go_meet
       case rel=>(try rw [← Nbq36.out]);exact ⟨_,(false),(by first|rfl|(simp;done)|(simp [*];done)),H',⟨by have:=Bi.out;have:=HK2.out;first|omega|exact nR _⟩,⟨by (with_reducible repeat (first|refine bN ?_ _|refine bD ?_|refine bA ?_ _|refine bE ?_ Bd.out _));exact Bc.out⟩,⟨by (with_reducible repeat (first|refine bN ?_ _|refine bD ?_|refine bA ?_ _));refine bT (cs:=#[.int .i64 ((rd_T57 l0_1 x20_2).f0),.int .i64 ((rd_T57 l0_1 x20_2).f1),.int .i64 ((rd_T57 l0_1 x20_2).f2),.bool false]) ?_ 3 _ rfl;(with_reducible repeat (first|refine bN ?_ _|refine bD ?_|refine bA ?_ _));refine bT (cs:=#[.int .i64 ((rd_T57 l0_1 x20_2).f0),.int .i64 ((rd_T57 l0_1 x20_2).f1),.int .i64 0,.bool false]) ?_ 2 _ rfl;(with_reducible repeat (first|refine bN ?_ _|refine bD ?_|refine bA ?_ _));refine bT (cs:=#[.int .i64 ((rd_T57 l0_1 x20_2).f0),.int .i64 0,.int .i64 0,.bool false]) ?_ 1 _ rfl;(with_reducible repeat (first|refine bN ?_ _|refine bD ?_|refine bA ?_ _));refine bT (cs:=#[.int .i64 0,.int .i64 0,.int .i64 0,.bool false]) ?_ 0 _ rfl;(with_reducible repeat (first|refine bN ?_ _|refine bD ?_|refine bA ?_ _));exact Ba.out⟩,⟨by repeat (first|(with_reducible first|exact HB.out|apply oA|apply pN|apply o1|refine bS ?_ Bg.out|refine bS ?_ Bh.out)|exact HB.out)⟩⟩
      rw [if_pos c26] at H
      have c26b0:decide (0<((rd_T57 l0_1 x20_2).f0))=true:=dT c26
      clear c26
      by_cases c27:((rd_T57 l0_1 x20_2).f2)=0
      ·rw [if_pos c27] at H
       have c27b0:(((rd_T57 l0_1 x20_2).f2) == 0)=true:=beq_iff_eq.mpr c27
       have c27b1:(((rd_T57 l0_1 x20_2).f2) != 0)=false:=bne_eq_false_iff_eq.mpr c27
       clear c27
       have H':=Am H
       clear H
       have GL:=Bf.out
       have GM:=Bd.out
       have BO:=cz0 Ba.out
       have BP:=cz1 Ba.out
       have BQ:=cz2 Ba.out
       have BR:=cz3 Ba.out
       have BS:=bF Ba.out 0
       have BT:=bF Ba.out 1
       have BU:=bF Ba.out 2
       have BV:=bF Ba.out 3
       go_wp2_with (first|(go_at_call 48;(with_reducible refine (impl_in.calls ((rd_T57 l0_1 x20_2).f0) 0 6 true _ A18.out).mono ?_);rintro e w' ⟨rfl,⟨nd,rfl⟩⟩;(try first|exact ⟨rfl,_,World.drewN_drewN _ _ _⟩|exact ⟨rfl,_,Eq.trans (World.drewN_drewN _ _ _) (congrArg (World.drewN _) (Nat.add_assoc _ _ _))⟩))|(go_at_call 48;(with_reducible refine (impl_in.calls ((rd_T57 l0_1 x20_2).f1) 0 2 true _ A20.out).mono ?_);rintro e w' ⟨rfl,⟨nd,rfl⟩⟩;(try first|exact ⟨rfl,_,World.drewN_drewN _ _ _⟩|exact ⟨rfl,_,Eq.trans (World.drewN_drewN _ _ _) (congrArg (World.drewN _) (Nat.add_assoc _ _ _))⟩))|(go_at_call 48;(with_reducible refine (impl_in.calls ((rd_T57 l0_1 x20_2).f2) 0 3 true _ A24.out).mono ?_);rintro e w' ⟨rfl,⟨nd,rfl⟩⟩;(try first|exact ⟨rfl,_,World.drewN_drewN _ _ _⟩|exact ⟨rfl,_,Eq.trans (World.drewN_drewN _ _ _) (congrArg (World.drewN _) (Nat.add_assoc _ _ _))⟩)))
       repeat (go_quiet (first|(go_at_call 48;(with_reducible refine (impl_in.calls ((rd_T57 l0_1 x20_2).f0) 0 6 true _ A18.out).mono ?_);rintro e w' ⟨rfl,⟨nd,rfl⟩⟩;(try first|exact ⟨rfl,_,World.drewN_drewN _ _ _⟩|exact ⟨rfl,_,Eq.trans (World.drewN_drewN _ _ _) (congrArg (World.drewN _) (Nat.add_assoc _ _ _))⟩))|(go_at_call 48;(with_reducible refine (impl_in.calls ((rd_T57 l0_1 x20_2).f1) 0 2 true _ A20.out).mono ?_);rintro e w' ⟨rfl,⟨nd,rfl⟩⟩;(try first|exact ⟨rfl,_,World.drewN_drewN _ _ _⟩|exact ⟨rfl,_,Eq.trans (World.drewN_drewN _ _ _) (congrArg (World.drewN _) (Nat.add_assoc _ _ _))⟩))|(go_at_call 48;(with_reducible refine (impl_in.calls ((rd_T57 l0_1 x20_2).f2) 0 3 true _ A24.out).mono ?_);rintro e w' ⟨rfl,⟨nd,rfl⟩⟩;(try first|exact ⟨rfl,_,World.drewN_drewN _ _ _⟩|exact ⟨rfl,_,Eq.trans (World.drewN_drewN _ _ _) (congrArg (World.drewN _) (Nat.add_assoc _ _ _))⟩)));try go_wp2_with (first|(go_at_call 48;(with_reducible refine (impl_in.calls ((rd_T57 l0_1 x20_2).f0) 0 6 true _ A18.out).mono ?_);rintro e w' ⟨rfl,⟨nd,rfl⟩⟩;(try first|exact ⟨rfl,_,World.drewN_drewN _ _ _⟩|exact ⟨rfl,_,Eq.trans (World.drewN_drewN _ _ _) (congrArg (World.drewN _) (Nat.add_assoc _ _ _))⟩))|(go_at_call 48;(with_reducible refine (impl_in.calls ((rd_T57 l0_1 x20_2).f1) 0 2 true _ A20.out).mono ?_);rintro e w' ⟨rfl,⟨nd,rfl⟩⟩;(try first|exact ⟨rfl,_,World.drewN_drewN _ _ _⟩|exact ⟨rfl,_,Eq.trans (World.drewN_drewN _ _ _) (congrArg (World.drewN _) (Nat.add_assoc _ _ _))⟩))|(go_at_call 48;(with_reducible refine (impl_in.calls ((rd_T57 l0_1 x20_2).f2) 0 3 true _ A24.out).mono ?_);rintro e w' ⟨rfl,⟨nd,rfl⟩⟩;(try first|exact ⟨rfl,_,World.drewN_drewN _ _ _⟩|exact ⟨rfl,_,Eq.trans (World.drewN_drewN _ _ _) (congrArg (World.drewN _) (Nat.add_assoc _ _ _))⟩))))
       go_meet
       case rel=>exact ⟨_,(true),(by first|rfl|(simp;done)|(simp [*];done)),H',⟨by have:=Bi.out;have:=HK2.out;first|omega|exact nR _⟩,⟨by (with_reducible repeat (first|refine bN ?_ _|refine bD ?_|refine bA ?_ _|refine bE ?_ Bd.out _));exact Bc.out⟩,⟨by (with_reducible repeat (first|refine bN ?_ _|refine bD ?_|refine bA ?_ _));refine bT (cs:=#[.int .i64 ((rd_T57 l0_1 x20_2).f0),.int .i64 ((rd_T57 l0_1 x20_2).f1),.int .i64 ((rd_T57 l0_1 x20_2).f2),.bool false]) ?_ 3 _ rfl;(with_reducible repeat (first|refine bN ?_ _|refine bD ?_|refine bA ?_ _));refine bT (cs:=#[.int .i64 ((rd_T57 l0_1 x20_2).f0),.int .i64 ((rd_T57 l0_1 x20_2).f1),.int .i64 0,.bool false]) ?_ 2 _ rfl;(with_reducible repeat (first|refine bN ?_ _|refine bD ?_|refine bA ?_ _));refine bT (cs:=#[.int .i64 ((rd_T57 l0_1 x20_2).f0),.int .i64 0,.int .i64 0,.bool false]) ?_ 1 _ rfl;(with_reducible repeat (first|refine bN ?_ _|refine bD ?_|refine bA ?_ _));refine bT (cs:=#[.int .i64 0,.int .i64 0,.int .i64 0,.bool false]) ?_ 0 _ rfl;(with_reducible repeat (first|refine bN ?_ _|refine bD ?_|refine bA ?_ _));exact Ba.out⟩,⟨by repeat (first|(with_reducible first|exact HB.out|apply oA|apply pN|apply o1|refine bS ?_ Bg.out|refine bS ?_ Bh.out)|exact HB.out)⟩⟩
      rw [if_neg c27] at H
      have c27b0:(((rd_T57 l0_1 x20_2).f2) == 0)=false:=beq_eq_false_iff_ne.mpr c27
      have c27b1:(((rd_T57 l0_1 x20_2).f2) != 0)=true:=bne_iff_ne.mpr c27
      obtain ⟨bq30,hbq30⟩:∃ b_:Bool,b_=((rd_T57 l0_1 x20_2).f3):=⟨_,rfl⟩
      replace H:(if bq30=true then (impl_LockOk.j2 k2 x3_2 x20_2 l0_1 (l0_1.length:Int) x20_2 (((rd_T57 l0_1 x20_2).f0) != 3) a0_0 l0_1 l0_2 ((rd_T57 l0_1 x20_2).f0) ((rd_T57 l0_1 x20_2).f1) ((rd_T57 l0_1 x20_2).f2) bq30) else (impl_LockOk.j2 k2 x3_2 x20_2 l0_1 (l0_1.length:Int) x20_2 false a0_0 l0_1 l0_2 ((rd_T57 l0_1 x20_2).f0) ((rd_T57 l0_1 x20_2).f1) ((rd_T57 l0_1 x20_2).f2) bq30))=some r:=by rw [← hbq30] at H;exact H
      have Nbq30:=Am hbq30
      clear hbq30
      by_cases c31:bq30=true
      ·subst c31
       have H1:(impl_LockOk.j2 k2 x3_2 x20_2 l0_1 (l0_1.length:Int) x20_2 (((rd_T57 l0_1 x20_2).f0) != 3) a0_0 l0_1 l0_2 ((rd_T57 l0_1 x20_2).f0) ((rd_T57 l0_1 x20_2).f1) ((rd_T57 l0_1 x20_2).f2) true)=some r:=by rw [if_pos rfl] at H;exact H
       clear H
       have H:=H1
       clear H1
       have H':=Am H
       clear H
       have GN:=Bf.out
       have GO:=Bd.out
       have BW:=cz0 Ba.out
       have BX:=cz1 Ba.out
       have BY:=cz2 Ba.out
       have BZ:=cz3 Ba.out
       have B0:=bF Ba.out 0
       have B1:=bF Ba.out 1
       have B2:=bF Ba.out 2
       have B3:=bF Ba.out 3
       go_wp2_with (first|(go_at_call 48;(with_reducible refine (impl_in.calls ((rd_T57 l0_1 x20_2).f0) 0 6 true _ A18.out).mono ?_);rintro e w' ⟨rfl,⟨nd,rfl⟩⟩;(try first|exact ⟨rfl,_,World.drewN_drewN _ _ _⟩|exact ⟨rfl,_,Eq.trans (World.drewN_drewN _ _ _) (congrArg (World.drewN _) (Nat.add_assoc _ _ _))⟩))|(go_at_call 48;(with_reducible refine (impl_in.calls ((rd_T57 l0_1 x20_2).f1) 0 2 true _ A20.out).mono ?_);rintro e w' ⟨rfl,⟨nd,rfl⟩⟩;(try first|exact ⟨rfl,_,World.drewN_drewN _ _ _⟩|exact ⟨rfl,_,Eq.trans (World.drewN_drewN _ _ _) (congrArg (World.drewN _) (Nat.add_assoc _ _ _))⟩))|(go_at_call 48;(with_reducible refine (impl_in.calls ((rd_T57 l0_1 x20_2).f2) 0 3 true _ A24.out).mono ?_);rintro e w' ⟨rfl,⟨nd,rfl⟩⟩;(try first|exact ⟨rfl,_,World.drewN_drewN _ _ _⟩|exact ⟨rfl,_,Eq.trans (World.drewN_drewN _ _ _) (congrArg (World.drewN _) (Nat.add_assoc _ _ _))⟩)))
       repeat (go_quiet (first|(go_at_call 48;(with_reducible refine (impl_in.calls ((rd_T57 l0_1 x20_2).f0) 0 6 true _ A18.out).mono ?_);rintro e w' ⟨rfl,⟨nd,rfl⟩⟩;(try first|exact ⟨rfl,_,World.drewN_drewN _ _ _⟩|exact ⟨rfl,_,Eq.trans (World.drewN_drewN _ _ _) (congrArg (World.drewN _) (Nat.add_assoc _ _ _))⟩))|(go_at_call 48;(with_reducible refine (impl_in.calls ((rd_T57 l0_1 x20_2).f1) 0 2 true _ A20.out).mono ?_);rintro e w' ⟨rfl,⟨nd,rfl⟩⟩;(try first|exact ⟨rfl,_,World.drewN_drewN _ _ _⟩|exact ⟨rfl,_,Eq.trans (World.drewN_drewN _ _ _) (congrArg (World.drewN _) (Nat.add_assoc _ _ _))⟩))|(go_at_call 48;(with_reducible refine (impl_in.calls ((rd_T57 l0_1 x20_2).f2) 0 3 true _ A24.out).mono ?_);rintro e w' ⟨rfl,⟨nd,rfl⟩⟩;(try first|exact ⟨rfl,_,World.drewN_drewN _ _ _⟩|exact ⟨rfl,_,Eq.trans (World.drewN_drewN _ _ _) (congrArg (World.drewN _) (Nat.add_assoc _ _ _))⟩)));try go_wp2_with (first|(go_at_call 48;(with_reducible refine (impl_in.calls ((rd_T57 l0_1 x20_2).f0) 0 6 true _ A18.out).mono ?_);rintro e w' ⟨rfl,⟨nd,rfl⟩⟩;(try first|exact ⟨rfl,_,World.drewN_drewN _ _ _⟩|exact ⟨rfl,_,Eq.trans (World.drewN_drewN _ _ _) (congrArg (World.drewN _) (Nat.add_assoc _ _ _))⟩))|(go_at_call 48;(with_reducible refine (impl_in.calls ((rd_T57 l0_1 x20_2).f1) 0 2 true _ A20.out).mono ?_);rintro e w' ⟨rfl,⟨nd,rfl⟩⟩;(try first|exact ⟨rfl,_,World.drewN_drewN _ _ _⟩|exact ⟨rfl,_,Eq.trans (World.drewN_drewN _ _ _) (congrArg (World.drewN _) (Nat.add_assoc _ _ _))⟩))|(go_at_call 48;(with_reducible refine (impl_in.calls ((rd_T57 l0_1 x20_2).f2) 0 3 true _ A24.out).mono ?_);rintro e w' ⟨rfl,⟨nd,rfl⟩⟩;(try first|exact ⟨rfl,_,World.drewN_drewN _ _ _⟩|exact ⟨rfl,_,Eq.trans (World.drewN_drewN _ _ _) (congrArg (World.drewN _) (Nat.add_assoc _ _ _))⟩))))
       any_goals first|exact absurd Nbq30.out.symm (by assumption)|exact absurd (Nbq30.out.trans (by assumption)) (by decide)|skip
       go_meet
       case rel=>(try rw [← Nbq30.out]);exact ⟨_,((((rd_T57 l0_1 x20_2).f0) != 3)),(by first|rfl|(simp;done)|(simp [*];done)),H',⟨by have:=Bi.out;have:=HK2.out;first|omega|exact nR _⟩,⟨by (with_reducible repeat (first|refine bN ?_ _|refine bD ?_|refine bA ?_ _|refine bE ?_ Bd.out _));exact Bc.out⟩,⟨by (with_reducible repeat (first|refine bN ?_ _|refine bD ?_|refine bA ?_ _));refine bT (cs:=#[.int .i64 ((rd_T57 l0_1 x20_2).f0),.int .i64 ((rd_T57 l0_1 x20_2).f1),.int .i64 ((rd_T57 l0_1 x20_2).f2),.bool false]) ?_ 3 _ rfl;(with_reducible repeat (first|refine bN ?_ _|refine bD ?_|refine bA ?_ _));refine bT (cs:=#[.int .i64 ((rd_T57 l0_1 x20_2).f0),.int .i64 ((rd_T57 l0_1 x20_2).f1),.int .i64 0,.bool false]) ?_ 2 _ rfl;(with_reducible repeat (first|refine bN ?_ _|refine bD ?_|refine bA ?_ _));refine bT (cs:=#[.int .i64 ((rd_T57 l0_1 x20_2).f0),.int .i64 0,.int .i64 0,.bool false]) ?_ 1 _ rfl;(with_reducible repeat (first|refine bN ?_ _|refine bD ?_|refine bA ?_ _));refine bT (cs:=#[.int .i64 0,.int .i64 0,.int .i64 0,.bool false]) ?_ 0 _ rfl;(with_reducible repeat (first|refine bN ?_ _|refine bD ?_|refine bA ?_ _));exact Ba.out⟩,⟨by repeat (first|(with_reducible first|exact HB.out|apply oA|apply pN|apply o1|refine bS ?_ Bg.out|refine bS ?_ Bh.out)|exact HB.out)⟩⟩
      replace c31:=Bool.eq_false_iff.mpr c31
      subst c31
      have H1:(impl_LockOk.j2 k2 x3_2 x20_2 l0_1 (l0_1.length:Int) x20_2 false a0_0 l0_1 l0_2 ((rd_T57 l0_1 x20_2).f0) ((rd_T57 l0_1 x20_2).f1) ((rd_T57 l0_1 x20_2).f2) false)=some r:=by rw [if_neg (show ¬ (false=true) by decide)] at H;exact H
      clear H
      have H:=H1
      clear H1
      have H':=Am H
      clear H
      have GP:=Bf.out
      have GQ:=Bd.out
      have B4:=cz0 Ba.out
      have B5:=cz1 Ba.out
      have B6:=cz2 Ba.out
      have B7:=cz3 Ba.out
      have B8:=bF Ba.out 0
      have B9:=bF Ba.out 1
      have Da:=bF Ba.out 2
      have Db:=bF Ba.out 3
      go_wp2_with (first|(go_at_call 48;(with_reducible refine (impl_in.calls ((rd_T57 l0_1 x20_2).f0) 0 6 true _ A18.out).mono ?_);rintro e w' ⟨rfl,⟨nd,rfl⟩⟩;(try first|exact ⟨rfl,_,World.drewN_drewN _ _ _⟩|exact ⟨rfl,_,Eq.trans (World.drewN_drewN _ _ _) (congrArg (World.drewN _) (Nat.add_assoc _ _ _))⟩))|(go_at_call 48;(with_reducible refine (impl_in.calls ((rd_T57 l0_1 x20_2).f1) 0 2 true _ A20.out).mono ?_);rintro e w' ⟨rfl,⟨nd,rfl⟩⟩;(try first|exact ⟨rfl,_,World.drewN_drewN _ _ _⟩|exact ⟨rfl,_,Eq.trans (World.drewN_drewN _ _ _) (congrArg (World.drewN _) (Nat.add_assoc _ _ _))⟩))|(go_at_call 48;(with_reducible refine (impl_in.calls ((rd_T57 l0_1 x20_2).f2) 0 3 true _ A24.out).mono ?_);rintro e w' ⟨rfl,⟨nd,rfl⟩⟩;(try first|exact ⟨rfl,_,World.drewN_drewN _ _ _⟩|exact ⟨rfl,_,Eq.trans (World.drewN_drewN _ _ _) (congrArg (World.drewN _) (Nat.add_assoc _ _ _))⟩)))
      repeat (go_quiet (first|(go_at_call 48;(with_reducible refine (impl_in.calls ((rd_T57 l0_1 x20_2).f0) 0 6 true _ A18.out).mono ?_);rintro e w' ⟨rfl,⟨nd,rfl⟩⟩;(try first|exact ⟨rfl,_,World.drewN_drewN _ _ _⟩|exact ⟨rfl,_,Eq.trans (World.drewN_drewN _ _ _) (congrArg (World.drewN _) (Nat.add_assoc _ _ _))⟩))|(go_at_call 48;(with_reducible refine (impl_in.calls ((rd_T57 l0_1 x20_2).f1) 0 2 true _ A20.out).mono ?_);rintro e w' ⟨rfl,⟨nd,rfl⟩⟩;(try first|exact ⟨rfl,_,World.drewN_drewN _ _ _⟩|exact ⟨rfl,_,Eq.trans (World.drewN_drewN _ _ _) (congrArg (World.drewN _) (Nat.add_assoc _ _ _))⟩))|(go_at_call 48;(with_reducible refine (impl_in.calls ((rd_T57 l0_1 x20_2).f2) 0 3 true _ A24.out).mono ?_);rintro e w' ⟨rfl,⟨nd,rfl⟩⟩;(try first|exact ⟨rfl,_,World.drewN_drewN _ _ _⟩|exact ⟨rfl,_,Eq.trans (World.drewN_drewN _ _ _) (congrArg (World.drewN _) (Nat.add_assoc _ _ _))⟩)));try go_wp2_with (first|(go_at_call 48;(with_reducible refine (impl_in.calls ((rd_T57 l0_1 x20_2).f0) 0 6 true _ A18.out).mono ?_);rintro e w' ⟨rfl,⟨nd,rfl⟩⟩;(try first|exact ⟨rfl,_,World.drewN_drewN _ _ _⟩|exact ⟨rfl,_,Eq.trans (World.drewN_drewN _ _ _) (congrArg (World.drewN _) (Nat.add_assoc _ _ _))⟩))|(go_at_call 48;(with_reducible refine (impl_in.calls ((rd_T57 l0_1 x20_2).f1) 0 2 true _ A20.out).mono ?_);rintro e w' ⟨rfl,⟨nd,rfl⟩⟩;(try first|exact ⟨rfl,_,World.drewN_drewN _ _ _⟩|exact ⟨rfl,_,Eq.trans (World.drewN_drewN _ _ _) (congrArg (World.drewN _) (Nat.add_assoc _ _ _))⟩))|(go_at_call 48;(with_reducible refine (impl_in.calls ((rd_T57 l0_1 x20_2).f2) 0 3 true _ A24.out).mono ?_);rintro e w' ⟨rfl,⟨nd,rfl⟩⟩;(try first|exact ⟨rfl,_,World.drewN_drewN _ _ _⟩|exact ⟨rfl,_,Eq.trans (World.drewN_drewN _ _ _) (congrArg (World.drewN _) (Nat.add_assoc _ _ _))⟩))))
      any_goals first|exact absurd Nbq30.out.symm (by assumption)|exact absurd (Nbq30.out.trans (by assumption)) (by decide)|skip
      go_meet
      case rel=>(try rw [← Nbq30.out]);exact ⟨_,(false),(by first|rfl|(simp;done)|(simp [*];done)),H',⟨by have:=Bi.out;have:=HK2.out;first|omega|exact nR _⟩,⟨by (with_reducible repeat (first|refine bN ?_ _|refine bD ?_|refine bA ?_ _|refine bE ?_ Bd.out _));exact Bc.out⟩,⟨by (with_reducible repeat (first|refine bN ?_ _|refine bD ?_|refine bA ?_ _));refine bT (cs:=#[.int .i64 ((rd_T57 l0_1 x20_2).f0),.int .i64 ((rd_T57 l0_1 x20_2).f1),.int .i64 ((rd_T57 l0_1 x20_2).f2),.bool false]) ?_ 3 _ rfl;(with_reducible repeat (first|refine bN ?_ _|refine bD ?_|refine bA ?_ _));refine bT (cs:=#[.int .i64 ((rd_T57 l0_1 x20_2).f0),.int .i64 ((rd_T57 l0_1 x20_2).f1),.int .i64 0,.bool false]) ?_ 2 _ rfl;(with_reducible repeat (first|refine bN ?_ _|refine bD ?_|refine bA ?_ _));refine bT (cs:=#[.int .i64 ((rd_T57 l0_1 x20_2).f0),.int .i64 0,.int .i64 0,.bool false]) ?_ 1 _ rfl;(with_reducible repeat (first|refine bN ?_ _|refine bD ?_|refine bA ?_ _));refine bT (cs:=#[.int .i64 0,.int .i64 0,.int .i64 0,.bool false]) ?_ 0 _ rfl;(with_reducible repeat (first|refine bN ?_ _|refine bD ?_|refine bA ?_ _));exact Ba.out⟩,⟨by repeat (first|(with_reducible first|exact HB.out|apply oA|apply pN|apply o1|refine bS ?_ Bg.out|refine bS ?_ Bh.out)|exact HB.out)⟩⟩
     case rest =>
      clear HC14
      try clear c1
      try clear p1
      try clear q1
      try clear hx1
      try clear c2
      try clear p2
      try clear c3
      try clear q3
      try clear c4
      try clear c5
      try clear q5
      try clear c6
      try clear c9
      try clear c11
      try clear c11b0
      try clear c12
      try clear c12b0
      try clear c13
      try clear c13b0
      try clear p14
      try clear q14
      try clear hx14
      try clear c16
      try clear c19
      try clear c21
      try clear c22
      try clear c22b0
      try clear c23
      try clear c23b0
      try clear c23b1
      try clear c25
      try clear c26
      try clear c26b0
      try clear c27
      try clear c27b0
      try clear c27b1
      try clear c28
      try clear q30
      try clear c31
      try clear c32
      try clear c34
      try clear q36
      try clear c37
      try clear c38
      try clear c40
      try clear c42
      try clear c44
      try clear c47
      try clear c48
      try clear c48b0
      try clear c49
      try clear c49b0
      try clear c49b1
      try clear c50
      try clear q52
      try clear c53
      try clear c54
      try clear c56
      try clear q58
      try clear c59
      try clear c60
      try clear c62
      try clear c64
      try clear c66
      try clear c68
      try clear BD
      try clear BE
      try clear BF
      try clear Bj
      try clear Bk
      try clear Bl
      try clear Bm
      try clear BO
      try clear BP
      try clear BQ
      try clear BR
      try clear BW
      try clear BX
      try clear BY
      try clear BZ
      try clear B4
      try clear B5
      try clear B6
      try clear B7
      try clear Dc
      try clear Dd
      try clear De
      try clear Df
      try clear Dk
      try clear Dl
      try clear Dm
      try clear Dn
      try clear Ds
      try clear Dt
      try clear Du
      try clear Dv
      try clear DA
      try clear DB
      try clear DC
      try clear DD
      try clear DI
      try clear DJ
      try clear DK
      try clear DL
      try clear DQ
      try clear DR
      try clear DS
      try clear DT
      try clear DY
      try clear DZ
      try clear D0
      try clear D1
      try clear D6
      try clear D7
      try clear D8
      try clear D9
      try clear Fe
      try clear Ff
      try clear Fg
      try clear Fh
      try clear Fm
      try clear Fn
      try clear Fo
      try clear Fp
      try clear Fu
      try clear Fv
      try clear Fw
      try clear Fx
      try clear FC
      try clear FD
      try clear FE
      try clear FF
      try clear Br
      try clear Bs
      try clear Bt
      try clear Bx
      try clear By
      try clear Bz
      try clear BG
      try clear BH
      try clear BI
      try clear Bn
      try clear Bo
      try clear Bp
      try clear Bq
      try clear BS
      try clear BT
      try clear BU
      try clear BV
      try clear B0
      try clear B1
      try clear B2
      try clear B3
      try clear B8
      try clear B9
      try clear Da
      try clear Db
      try clear Dg
      try clear Dh
      try clear Di
      try clear Dj
      try clear Do
      try clear Dp
      try clear Dq
      try clear Dr
      try clear Dw
      try clear Dx
      try clear Dy
      try clear Dz
      try clear DE
      try clear DF
      try clear DG
      try clear DH
      try clear DM
      try clear DN
      try clear DO
      try clear DP
      try clear DU
      try clear DV
      try clear DW
      try clear DX
      try clear D2
      try clear D3
      try clear D4
      try clear D5
      try clear Fa
      try clear Fb
      try clear Fc
      try clear Fd
      try clear Fi
      try clear Fj
      try clear Fk
      try clear Fl
      try clear Fq
      try clear Fr
      try clear Fs
      try clear Ft
      try clear Fy
      try clear Fz
      try clear FA
      try clear FB
      try clear FG
      try clear FH
      try clear FI
      try clear FJ
      try clear Bu
      try clear Bv
      try clear Bw
      try clear BA
      try clear BB
      try clear BC
      try clear hx147_0
      try clear hx147_1
      try clear hx147_2
      try clear hx147_3
      try clear p147
      try clear p2
      try clear q147
      obtain ⟨kq,x69_13,rfl,HA,BJ,Bc,Ba,HB⟩:=hcut
      cases kq with
     |zero=>exact absurd HA.out (by simp [impl_LockOk.j2])
     |succ kj13 =>
       have H:=HA.out
       clear HA
       simp only [impl_LockOk.j2] at H
       by_cases c70:x69_13=true
       ·subst c70
        have H1:(some false)=some r:=by rw [if_pos rfl] at H;exact H
        clear H
        have H:=H1
        clear H1
        obtain rfl:=oJ H
        go_wp2
        repeat (go_quiet (fail);try go_wp2)
        go_ret
        exact ⟨by first|rfl|(simp [errW_none,errW_some] <;> rfl)|(simp [*,errW_none,errW_some] <;> rfl),by repeat (first|(with_reducible first|exact HB.out|apply oA|apply pN|apply o1|refine bS ?_ Bg.out|refine bS ?_ Bh.out)|exact HB.out)⟩
       replace c70:=Bool.eq_false_iff.mpr c70
       subst c70
       have H1:(if ((rd_T57 l0_1 x20_2).f3)=true then ((slices_Contains_int_int.f kj13 l0_2 x20_2).bind fun t153=>(if (((rd_T57 l0_1 x20_2).f3) != t153)=true then (some false) else (impl_LockOk.l0 kj13 (wrap64 (x3_2 + 1)) l0_1 (l0_1.length:Int) (wrap64 (x20_2 + 1)) a0_0 l0_1 l0_2))) else ((slices_Contains_int_int.f kj13 l0_2 x20_2).bind fun t154=>(if (((rd_T57 l0_1 x20_2).f3) != t154)=true then (some false) else (impl_LockOk.l0 kj13 x3_2 l0_1 (l0_1.length:Int) (wrap64 (x20_2 + 1)) a0_0 l0_1 l0_2))))=some r:=by rw [if_neg (show ¬ (false=true) by decide)] at H;exact H
       clear H
       have H:=H1
       clear H1
       by_cases c71:((rd_T57 l0_1 x20_2).f3)=true
       rotate_left
       ·rw [if_neg c71] at H
        have c71b0:((rd_T57 l0_1 x20_2).f3)=false:=by simpa using c71
        clear c71
        replace H:=oC H
        obtain ⟨t154,A800,H⟩:=H
        replace H:(if (((rd_T57 l0_1 x20_2).f3) != t154)=true then (some false) else (impl_LockOk.l0 kj13 x3_2 l0_1 (l0_1.length:Int) (wrap64 (x20_2 + 1)) a0_0 l0_1 l0_2))=some r:=H
        have A80:=Am A800
        clear A800
        by_cases c81:(((rd_T57 l0_1 x20_2).f3) != t154)=true
        ·rw [if_pos c81] at H
         have c81b0:(((rd_T57 l0_1 x20_2).f3) != t154)=true:=c81
         have c81b7:t154=true:=by have z_:=c81b0;rw [c71b0] at z_;revert z_;cases t154<;>decide
         have c81b8:(!t154)=false:=by rw [c81b7];rfl
         (try (have c81b1:decide (((rd_T57 l0_1 x20_2).f3)=t154)=false:=by simpa using c81))
         (try (have c81b2:(((rd_T57 l0_1 x20_2).f3) == t154)=false:=by simpa using c81))
         (try (have c81b3:¬ (((rd_T57 l0_1 x20_2).f3)=t154):=by simpa using c81))
         clear c81
         obtain rfl:=oJ H
         have Jj:=Bf.out
         have Jk:=Bd.out
         have Gc:=cz0 Ba.out
         have Gd:=cz1 Ba.out
         have Ge:=cz2 Ba.out
         have Gf:=cz3 Ba.out
         have Gg:=bF Ba.out 0
         have Gh:=bF Ba.out 1
         have Gi:=bF Ba.out 2
         have Gj:=bF Ba.out 3
         have Gk:=cz0 Bc.out
         have Gl:=cz1 Bc.out
         have Gm:=cz2 Bc.out
         have Gn:=bF Bc.out 0
         have Gp:=bF Bc.out 1
         have Gq:=bF Bc.out 2
         go_wp2_with (first|(go_at_call 65;(with_reducible refine (slices_Contains_int_int.calls kj13 _ _ l0_2 x20_2 t154 _ ?side1 ?side2 A80.out).mono ?_);(case side1=>exact cL (cB HR0_2.out HB.out));(case side2=>exact HC0_2.out);rintro e w' ⟨rfl,⟨nd,rfl⟩⟩;(try first|exact ⟨rfl,_,World.drewN_drewN _ _ _⟩|exact ⟨rfl,_,Eq.trans (World.drewN_drewN _ _ _) (congrArg (World.drewN _) (Nat.add_assoc _ _ _))⟩)))
         repeat (go_quiet (first|(go_at_call 65;(with_reducible refine (slices_Contains_int_int.calls kj13 _ _ l0_2 x20_2 t154 _ ?side1 ?side2 A80.out).mono ?_);(case side1=>exact cL (cB HR0_2.out HB.out));(case side2=>exact HC0_2.out);rintro e w' ⟨rfl,⟨nd,rfl⟩⟩;(try first|exact ⟨rfl,_,World.drewN_drewN _ _ _⟩|exact ⟨rfl,_,Eq.trans (World.drewN_drewN _ _ _) (congrArg (World.drewN _) (Nat.add_assoc _ _ _))⟩)));try go_wp2_with (first|(go_at_call 65;(with_reducible refine (slices_Contains_int_int.calls kj13 _ _ l0_2 x20_2 t154 _ ?side1 ?side2 A80.out).mono ?_);(case side1=>exact cL (cB HR0_2.out HB.out));(case side2=>exact HC0_2.out);rintro e w' ⟨rfl,⟨nd,rfl⟩⟩;(try first|exact ⟨rfl,_,World.drewN_drewN _ _ _⟩|exact ⟨rfl,_,Eq.trans (World.drewN_drewN _ _ _) (congrArg (World.drewN _) (Nat.add_assoc _ _ _))⟩))))
         go_ret
         exact ⟨by first|rfl|(simp [errW_none,errW_some] <;> rfl)|(simp [*,errW_none,errW_some] <;> rfl),by repeat (first|(with_reducible first|exact HB.out|apply oA|apply pN|apply o1|refine bS ?_ Bg.out|refine bS ?_ Bh.out)|exact HB.out)⟩
        rw [if_neg c81] at H
        have c81b0:(((rd_T57 l0_1 x20_2).f3) != t154)=false:=by simpa using c81
        have c81b7:t154=false:=by have z_:=c81b0;rw [c71b0] at z_;revert z_;cases t154<;>decide
        have c81b8:(!t154)=true:=by rw [c81b7];rfl
        (try (have c81b1:decide (((rd_T57 l0_1 x20_2).f3)=t154)=true:=by simpa using c81))
        (try (have c81b2:(((rd_T57 l0_1 x20_2).f3) == t154)=true:=by simpa using c81))
        clear c81
        have H':=Am H
        clear H
        have Jl:=Bf.out
        have Jm:=Bd.out
        have Gr:=cz0 Ba.out
        have Gs:=cz1 Ba.out
        have Gt:=cz2 Ba.out
        have Gu:=cz3 Ba.out
        have Gv:=bF Ba.out 0
        have Gw:=bF Ba.out 1
        have Gx:=bF Ba.out 2
        have Gy:=bF Ba.out 3
        have Gz:=cz0 Bc.out
        have GA:=cz1 Bc.out
        have GB:=cz2 Bc.out
        have GC:=bF Bc.out 0
        have GD:=bF Bc.out 1
        have GE:=bF Bc.out 2
        go_wp2_with (first|(go_at_call 65;(with_reducible refine (slices_Contains_int_int.calls kj13 _ _ l0_2 x20_2 t154 _ ?side1 ?side2 A80.out).mono ?_);(case side1=>exact cL (cB HR0_2.out HB.out));(case side2=>exact HC0_2.out);rintro e w' ⟨rfl,⟨nd,rfl⟩⟩;(try first|exact ⟨rfl,_,World.drewN_drewN _ _ _⟩|exact ⟨rfl,_,Eq.trans (World.drewN_drewN _ _ _) (congrArg (World.drewN _) (Nat.add_assoc _ _ _))⟩)))
        repeat (go_quiet (first|(go_at_call 65;(with_reducible refine (slices_Contains_int_int.calls kj13 _ _ l0_2 x20_2 t154 _ ?side1 ?side2 A80.out).mono ?_);(case side1=>exact cL (cB HR0_2.out HB.out));(case side2=>exact HC0_2.out);rintro e w' ⟨rfl,⟨nd,rfl⟩⟩;(try first|exact ⟨rfl,_,World.drewN_drewN _ _ _⟩|exact ⟨rfl,_,Eq.trans (World.drewN_drewN _ _ _) (congrArg (World.drewN _) (Nat.add_assoc _ _ _))⟩)));try go_wp2_with (first|(go_at_call 65;(with_reducible refine (slices_Contains_int_int.calls kj13 _ _ l0_2 x20_2 t154 _ ?side1 ?side2 A80.out).mono ?_);(case side1=>exact cL (cB HR0_2.out HB.out));(case side2=>exact HC0_2.out);rintro e w' ⟨rfl,⟨nd,rfl⟩⟩;(try first|exact ⟨rfl,_,World.drewN_drewN _ _ _⟩|exact ⟨rfl,_,Eq.trans (World.drewN_drewN _ _ _) (congrArg (World.drewN _) (Nat.add_assoc _ _ _))⟩))))
        go_roundg kj13
        case measure=>have:=Bi.out;have:=HK2.out;have:=BJ.out;omega
        case rel=>exact ⟨(x3_2),(wrap64 (x20_2 + 1)),(by first|rfl|(simp;done)|(simp [*];done)),(by first|rfl|(simp;done)|(simp [*];done)),H',⟨by have:=Bi.out;have:=HK2.out;have:=BJ.out;omega⟩,⟨by (with_reducible repeat (first|refine bN ?_ _|refine bD ?_|refine bA ?_ _));exact Bc.out⟩,⟨by repeat (first|(with_reducible first|exact HB.out|apply oA|apply pN|apply o1|refine bS ?_ Bg.out|refine bS ?_ Bh.out)|exact HB.out)⟩⟩
       rw [if_pos c71] at H
       have c71b0:((rd_T57 l0_1 x20_2).f3)=true:=c71
       clear c71
       replace H:=oC H
       obtain ⟨t153,A720,H⟩:=H
       replace H:(if (((rd_T57 l0_1 x20_2).f3) != t153)=true then (some false) else (impl_LockOk.l0 kj13 (wrap64 (x3_2 + 1)) l0_1 (l0_1.length:Int) (wrap64 (x20_2 + 1)) a0_0 l0_1 l0_2))=some r:=H
       have A72:=Am A720
       clear A720
       by_cases c73:(((rd_T57 l0_1 x20_2).f3) != t153)=true
       ·rw [if_pos c73] at H
        have c73b0:(((rd_T57 l0_1 x20_2).f3) != t153)=true:=c73
        have c73b7:t153=false:=by have z_:=c73b0;rw [c71b0] at z_;revert z_;cases t153<;>decide
        have c73b8:(!t153)=true:=by rw [c73b7];rfl
        (try (have c73b1:decide (((rd_T57 l0_1 x20_2).f3)=t153)=false:=by simpa using c73))
        (try (have c73b2:(((rd_T57 l0_1 x20_2).f3) == t153)=false:=by simpa using c73))
        (try (have c73b3:¬ (((rd_T57 l0_1 x20_2).f3)=t153):=by simpa using c73))
        clear c73
        obtain rfl:=oJ H
        have Jf:=Bf.out
        have Jg:=Bd.out
        have FK:=cz0 Ba.out
        have FL:=cz1 Ba.out
        have FM:=cz2 Ba.out
        have FN:=cz3 Ba.out
        have FO:=bF Ba.out 0
        have FP:=bF Ba.out 1
        have FQ:=bF Ba.out 2
        have FR:=bF Ba.out 3
        have FS:=cz0 Bc.out
        have FT:=cz1 Bc.out
        have FU:=cz2 Bc.out
        have FV:=bF Bc.out 0
        have FW:=bF Bc.out 1
        have FX:=bF Bc.out 2
        go_wp2_with (first|(go_at_call 65;(with_reducible refine (slices_Contains_int_int.calls kj13 _ _ l0_2 x20_2 t153 _ ?side1 ?side2 A72.out).mono ?_);(case side1=>exact cL (cB HR0_2.out HB.out));(case side2=>exact HC0_2.out);rintro e w' ⟨rfl,⟨nd,rfl⟩⟩;(try first|exact ⟨rfl,_,World.drewN_drewN _ _ _⟩|exact ⟨rfl,_,Eq.trans (World.drewN_drewN _ _ _) (congrArg (World.drewN _) (Nat.add_assoc _ _ _))⟩)))
        repeat (go_quiet (first|(go_at_call 65;(with_reducible refine (slices_Contains_int_int.calls kj13 _ _ l0_2 x20_2 t153 _ ?side1 ?side2 A72.out).mono ?_);(case side1=>exact cL (cB HR0_2.out HB.out));(case side2=>exact HC0_2.out);rintro e w' ⟨rfl,⟨nd,rfl⟩⟩;(try first|exact ⟨rfl,_,World.drewN_drewN _ _ _⟩|exact ⟨rfl,_,Eq.trans (World.drewN_drewN _ _ _) (congrArg (World.drewN _) (Nat.add_assoc _ _ _))⟩)));try go_wp2_with (first|(go_at_call 65;(with_reducible refine (slices_Contains_int_int.calls kj13 _ _ l0_2 x20_2 t153 _ ?side1 ?side2 A72.out).mono ?_);(case side1=>exact cL (cB HR0_2.out HB.out));(case side2=>exact HC0_2.out);rintro e w' ⟨rfl,⟨nd,rfl⟩⟩;(try first|exact ⟨rfl,_,World.drewN_drewN _ _ _⟩|exact ⟨rfl,_,Eq.trans (World.drewN_drewN _ _ _) (congrArg (World.drewN _) (Nat.add_assoc _ _ _))⟩))))
        go_ret
        exact ⟨by first|rfl|(simp [errW_none,errW_some] <;> rfl)|(simp [*,errW_none,errW_some] <;> rfl),by repeat (first|(with_reducible first|exact HB.out|apply oA|apply pN|apply o1|refine bS ?_ Bg.out|refine bS ?_ Bh.out)|exact HB.out)⟩
       rw [if_neg c73] at H
       have c73b0:(((rd_T57 l0_1 x20_2).f3) != t153)=false:=by simpa using c73
       have c73b7:t153=true:=by have z_:=c73b0;rw [c71b0] at z_;revert z_;cases t153<;>decide
       have c73b8:(!t153)=false:=by rw [c73b7];rfl
       (try (have c73b1:decide (((rd_T57 l0_1 x20_2).f3)=t153)=true:=by simpa using c73))
       (try (have c73b2:(((rd_T57 l0_1 x20_2).f3) == t153)=true:=by simpa using c73))
       clear c73
       have H':=Am H
       clear H
       have Jh:=Bf.out
       have Ji:=Bd.out
       have FY:=cz0 Ba.out
       have FZ:=cz1 Ba.out
       have F0:=cz2 Ba.out
       have F1:=cz3 Ba.out
       have F2:=bF Ba.out 0
       have F3:=bF Ba.out 1
       have F4:=bF Ba.out 2
       have F5:=bF Ba.out 3
       have F6:=cz0 Bc.out
       have F7:=cz1 Bc.out
       have F8:=cz2 Bc.out
       have F9:=bF Bc.out 0
       have Ga:=bF Bc.out 1
       have Gb:=bF Bc.out 2
       go_wp2_with (first|(go_at_call 65;(with_reducible refine (slices_Contains_int_int.calls kj13 _ _ l0_2 x20_2 t153 _ ?side1 ?side2 A72.out).mono ?_);(case side1=>exact cL (cB HR0_2.out HB.out));(case side2=>exact HC0_2.out);rintro e w' ⟨rfl,⟨nd,rfl⟩⟩;(try first|exact ⟨rfl,_,World.drewN_drewN _ _ _⟩|exact ⟨rfl,_,Eq.trans (World.drewN_drewN _ _ _) (congrArg (World.drewN _) (Nat.add_assoc _ _ _))⟩)))
       repeat (go_quiet (first|(go_at_call 65;(with_reducible refine (slices_Contains_int_int.calls kj13 _ _ l0_2 x20_2 t153 _ ?side1 ?side2 A72.out).mono ?_);(case side1=>exact cL (cB HR0_2.out HB.out));(case side2=>exact HC0_2.out);rintro e w' ⟨rfl,⟨nd,rfl⟩⟩;(try first|exact ⟨rfl,_,World.drewN_drewN _ _ _⟩|exact ⟨rfl,_,Eq.trans (World.drewN_drewN _ _ _) (congrArg (World.drewN _) (Nat.add_assoc _ _ _))⟩)));try go_wp2_with (first|(go_at_call 65;(with_reducible refine (slices_Contains_int_int.calls kj13 _ _ l0_2 x20_2 t153 _ ?side1 ?side2 A72.out).mono ?_);(case side1=>exact cL (cB HR0_2.out HB.out));(case side2=>exact HC0_2.out);rintro e w' ⟨rfl,⟨nd,rfl⟩⟩;(try first|exact ⟨rfl,_,World.drewN_drewN _ _ _⟩|exact ⟨rfl,_,Eq.trans (World.drewN_drewN _ _ _) (congrArg (World.drewN _) (Nat.add_assoc _ _ _))⟩))))
       go_roundg kj13
       case measure=>have:=Bi.out;have:=HK2.out;have:=BJ.out;omega
       case rel=>exact ⟨(wrap64 (x3_2 + 1)),(wrap64 (x20_2 + 1)),(by first|rfl|(simp;done)|(simp [*];done)),(by first|rfl|(simp;done)|(simp [*];done)),H',⟨by have:=Bi.out;have:=HK2.out;have:=BJ.out;omega⟩,⟨by (with_reducible repeat (first|refine bN ?_ _|refine bD ?_|refine bA ?_ _));exact Bc.out⟩,⟨by repeat (first|(with_reducible first|exact HB.out|apply oA|apply pN|apply o1|refine bS ?_ Bg.out|refine bS ?_ Bh.out)|exact HB.out)⟩⟩
end Go.Proofs.Ytpdfkbggaihfpaa.PFnLockWord
