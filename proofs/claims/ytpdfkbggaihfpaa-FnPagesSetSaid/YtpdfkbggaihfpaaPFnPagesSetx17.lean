/- Proved here, without a condition beyond those that each theorem states: what the Go functions named below do is what the plain functions of the same names say. Written by xprint.py, a program of this session. -/
import Derived.Test.YtpdfkbggaihfpaaPFnPagesSetx0
import Derived.Test.YtpdfkbggaihfpaaPFnPagesSetx6
import Derived.Test.YtpdfkbggaihfpaaPFnPagesSetx8
import Derived.Test.YtpdfkbggaihfpaaPFnPagesSetx11
import Derived.Test.YtpdfkbggaihfpaaPFnPagesSetx15
import Derived.Test.YtpdfkbggaihfpaaPFnPagesSetx16
namespace Go.Proofs.Ytpdfkbggaihfpaa.PFnPagesSet
open Go.RowKit Go.Proofs.YtpdfkbggaihfpaaW.PrintWords Go.Proofs.YtpdfkbggaihfpaaW.PrintLast Go.Proofs.YtpdfkbggaihfpaaW.PrintMore
attribute [local go_sem] max2_int min2_int max_two min_two max_three min_three max_four min_four   -- for this text's walks alone
set_option linter.unusedVariables false
set_option linter.unusedSimpArgs false

attribute [local go_sem ↓] isSome_setCell_
/-! ### laws_FnPagesSet: function 4 -/
mutual
def laws_FnPagesSet.j0 : Nat → Int → Int → Int → Bool → Bool → List ByteArray → List Int → List ByteArray → List Int → Option (Bool)
|0, _, _, _, _, _, _, _, _, _ => none
|k + 1, x4, x5, x6, x8, x11, x322000, x322001, x330000, x330001 => if x11 = true then (laws_FnPagesSet.j1 k x4 x5 x6 x11 (!x8) x322000 x322001 x330000 x330001) else (laws_FnPagesSet.j1 k x4 x5 x6 x11 true x322000 x322001 x330000 x330001)
def laws_FnPagesSet.j1 : Nat → Int → Int → Int → Bool → Bool → List ByteArray → List Int → List ByteArray → List Int → Option (Bool)
|0, _, _, _, _, _, _, _, _, _ => none
|k + 1, x4, x5, x6, x11, x57, x322000, x322001, x330000, x330001 => if x57 = true then (some x11) else ((impl_PagesGet.f k x330000 x330001 x4).bind fun bt339 => ((impl_PagesGet.f k x322000 x322001 x4).bind fun bt341 => (if 0 ≤ x5 then (if x5 < (bt341.1.size : Int) then ((impl_PagesSet.f k x330000 x330001 x4 x5 (wrap64 (bt bt341.1 x5))).bind fun bt343 => (if x5 < (bt339.1.size : Int) then (if (wrap64 (bt bt339.1 x5)) = x6 then (if x5 ≤ (bt339.1.size : Int) then (if x5 ≤ (bt341.1.size : Int) then (if (bt339.1.extract 0 (x5 : Int).toNat).toList = (bt341.1.extract 0 (x5 : Int).toNat).toList then (if 0 ≤ (wrap64 (x5 + 1)) then (if (wrap64 (x5 + 1)) ≤ (bt339.1.size : Int) then (if (wrap64 (x5 + 1)) ≤ (bt341.1.size : Int) then (if (bt339.1.extract ((wrap64 (x5 + 1)) : Int).toNat bt339.1.size).toList = (bt341.1.extract ((wrap64 (x5 + 1)) : Int).toNat bt341.1.size).toList then (if bt343.2.2 = true then ((laws_qdPages.f k bt343.1 bt343.2.1 x322000 x322001).bind fun t351 => (some t351)) else (some false)) else (some false)) else (none)) else (none)) else (none)) else (some false)) else (none)) else (none)) else (some false)) else (none))) else (none)) else (none))))
end
def laws_FnPagesSet.f (k : Nat) (l0 : List Int) : Option (Bool) := if (l0.length : Int) > 1048576 then (some true) else ((spec_DrawPagesSet.f k l0).bind fun bt312 => ((impl_PagesSet.f k bt312.1 bt312.2.1 bt312.2.2.1 bt312.2.2.2.1 bt312.2.2.2.2).bind fun bt322 => ((spec_PagesSet.f k bt312.1 bt312.2.1 bt312.2.2.1 bt312.2.2.2.1 bt312.2.2.2.2).bind fun bt330 => ((laws_qdPages.f k bt322.1 bt322.2.1 bt330.1 bt330.2.1).bind fun t338 => (if t338 = true then (laws_FnPagesSet.j0 k bt312.2.2.1 bt312.2.2.2.1 bt312.2.2.2.2 bt322.2.2 (bt322.2.2 == bt330.2.2) bt312.1 bt312.2.1 bt322.1 bt322.2.1) else (laws_FnPagesSet.j0 k bt312.2.2.1 bt312.2.2.2.1 bt312.2.2.2.2 bt322.2.2 false bt312.1 bt312.2.1 bt322.1 bt322.2.1))))))
theorem laws_FnPagesSet.mono_l : ∀ k, (∀ y0 y1 y2 y3 y4 y5 y6 y7 y8, LeO (laws_FnPagesSet.j0 k y0 y1 y2 y3 y4 y5 y6 y7 y8) (laws_FnPagesSet.j0 (k + 1) y0 y1 y2 y3 y4 y5 y6 y7 y8)) ∧ (∀ y0 y1 y2 y3 y4 y5 y6 y7 y8, LeO (laws_FnPagesSet.j1 k y0 y1 y2 y3 y4 y5 y6 y7 y8) (laws_FnPagesSet.j1 (k + 1) y0 y1 y2 y3 y4 y5 y6 y7 y8))
|0 => ⟨fun _ _ _ _ _ _ _ _ _ r h => by simp [laws_FnPagesSet.j0] at h, fun _ _ _ _ _ _ _ _ _ r h => by simp [laws_FnPagesSet.j1] at h⟩
|k + 1 => by
  obtain ⟨ih0, ih1⟩ := laws_FnPagesSet.mono_l k
  refine ⟨?_, ?_⟩
  ·intro y0 y1 y2 y3 y4 y5 y6 y7 y8
   unfold laws_FnPagesSet.j0
   repeat' first
  |(with_reducible exact ih0 _ _ _ _ _ _ _ _ _)
  |(with_reducible exact ih1 _ _ _ _ _ _ _ _ _)
  |(with_reducible exact impl_PagesGet.mono _ _ _ _)
  |(with_reducible exact impl_PagesSet.mono _ _ _ _ _ _)
  |(with_reducible exact laws_qdPages.mono _ _ _ _ _)
  |(with_reducible exact spec_DrawPagesSet.mono _ _)
  |(with_reducible exact spec_PagesSet.mono _ _ _ _ _ _)
  |(with_reducible exact LeO.refl _)
  |(with_reducible exact LeO.none _)
  |(with_reducible refine LeO.ite ?_ ?_)
  |(with_reducible refine LeO.bind ?_ (fun _ => ?_))
  |exact ih0 _ _ _ _ _ _ _ _ _
  |exact ih1 _ _ _ _ _ _ _ _ _
  |exact impl_PagesGet.mono _ _ _ _
  |exact impl_PagesSet.mono _ _ _ _ _ _
  |exact laws_qdPages.mono _ _ _ _ _
  |exact spec_DrawPagesSet.mono _ _
  |exact spec_PagesSet.mono _ _ _ _ _ _
  |exact LeO.none _
  |refine LeO.ite ?_ ?_
  |refine LeO.bind ?_ (fun _ => ?_)
  ·intro y0 y1 y2 y3 y4 y5 y6 y7 y8
   unfold laws_FnPagesSet.j1
   repeat' first
  |(with_reducible exact ih0 _ _ _ _ _ _ _ _ _)
  |(with_reducible exact ih1 _ _ _ _ _ _ _ _ _)
  |(with_reducible exact impl_PagesGet.mono _ _ _ _)
  |(with_reducible exact impl_PagesSet.mono _ _ _ _ _ _)
  |(with_reducible exact laws_qdPages.mono _ _ _ _ _)
  |(with_reducible exact spec_DrawPagesSet.mono _ _)
  |(with_reducible exact spec_PagesSet.mono _ _ _ _ _ _)
  |(with_reducible exact LeO.refl _)
  |(with_reducible exact LeO.none _)
  |(with_reducible refine LeO.ite ?_ ?_)
  |(with_reducible refine LeO.bind ?_ (fun _ => ?_))
  |exact ih0 _ _ _ _ _ _ _ _ _
  |exact ih1 _ _ _ _ _ _ _ _ _
  |exact impl_PagesGet.mono _ _ _ _
  |exact impl_PagesSet.mono _ _ _ _ _ _
  |exact laws_qdPages.mono _ _ _ _ _
  |exact spec_DrawPagesSet.mono _ _
  |exact spec_PagesSet.mono _ _ _ _ _ _
  |exact LeO.none _
  |refine LeO.ite ?_ ?_
  |refine LeO.bind ?_ (fun _ => ?_)
theorem laws_FnPagesSet.mono : ∀ a0 k, LeO (laws_FnPagesSet.f k a0) (laws_FnPagesSet.f (k + 1) a0) := by
 intro a0 k
 obtain ⟨ih0, ih1⟩ := laws_FnPagesSet.mono_l k
 unfold laws_FnPagesSet.f
 repeat' first
  |(with_reducible exact ih0 _ _ _ _ _ _ _ _ _)
  |(with_reducible exact ih1 _ _ _ _ _ _ _ _ _)
  |(with_reducible exact impl_PagesGet.mono _ _ _ _)
  |(with_reducible exact impl_PagesSet.mono _ _ _ _ _ _)
  |(with_reducible exact laws_qdPages.mono _ _ _ _ _)
  |(with_reducible exact spec_DrawPagesSet.mono _ _)
  |(with_reducible exact spec_PagesSet.mono _ _ _ _ _ _)
  |(with_reducible exact LeO.refl _)
  |(with_reducible exact LeO.none _)
  |(with_reducible refine LeO.ite ?_ ?_)
  |(with_reducible refine LeO.bind ?_ (fun _ => ?_))
  |exact ih0 _ _ _ _ _ _ _ _ _
  |exact ih1 _ _ _ _ _ _ _ _ _
  |exact impl_PagesGet.mono _ _ _ _
  |exact impl_PagesSet.mono _ _ _ _ _ _
  |exact laws_qdPages.mono _ _ _ _ _
  |exact spec_DrawPagesSet.mono _ _
  |exact spec_PagesSet.mono _ _ _ _ _ _
  |exact LeO.none _
  |refine LeO.ite ?_ ?_
  |refine LeO.bind ?_ (fun _ => ?_)
def laws_FnPagesSet.T11 : Bool × List (List Nat × List Nat) := (true, [([], []), ([], []), ([], []), ([], []), ([], []), ([3, 4], [3, 4]), ([5], [5]), ([0, 1, 2, 6], [0, 1, 2, 6]), ([7], [7]), ([8], [8]), ([8], [8]), ([], []), ([11, 9, 7, 0, 1, 2, 3, 4, 5, 6, 7, 8, 9, 11], [9, 11]), ([10, 12, 0, 1, 2, 3, 4, 5, 6, 7, 8, 9, 10, 11, 12], [10])])
def laws_FnPagesSet.B11 : List Nat := [0, 0, 0, 0, 0, 24, 56, 127, 255, 511, 511, 0, 3071, 8191]
theorem laws_FnPagesSet.tab11 : rtab .any (opsOf Try.f4 11) = laws_FnPagesSet.T11 := by kernel_rfl
theorem laws_FnPagesSet.bits11 : waitsOk laws_FnPagesSet.T11.2 laws_FnPagesSet.B11 = true := by kernel_rfl
def laws_FnPagesSet.T12 : Bool × List (List Nat × List Nat) := (true, [([], []), ([], []), ([0, 1], [0, 1]), ([2], [2]), ([], []), ([3, 4], [3, 4]), ([5], [5]), ([6], [6]), ([6], [6]), ([7, 8, 6], [6, 7, 8]), ([6], [6]), ([6], [6]), ([10, 11, 6], [6, 10, 11]), ([9, 12, 6], [6, 9, 12]), ([6, 13], [6, 13]), ([14, 6], [14]), ([15], [15]), ([15], [15]), ([17, 15], [15, 17]), ([16, 18, 15], [15, 16, 18]), ([15], [15]), ([15], [15]), ([21, 15], [15, 21]), ([20, 22, 15], [15, 20, 22]), ([19, 23, 15], [15, 19, 23]), ([15, 24], [15, 24]), ([25, 15], [25]), ([26], [26]), ([26, 27], [26, 27]), ([28, 26], [28]), ([29], [29]), ([29], [29]), ([30, 31, 29, 29], [29, 30, 31]), ([29, 32], [29, 32]), ([33, 32, 0, 1, 2, 3, 4, 5, 6, 7, 8, 9, 10, 11, 12, 13, 14, 15, 16, 17, 18, 19, 20, 21, 22, 23, 24, 25, 26, 27, 28, 29, 30, 31, 32, 33], [33])])
def laws_FnPagesSet.B12 : List Nat := [0, 0, 3, 7, 0, 31, 63, 127, 127, 511, 127, 127, 3199, 8191, 16383, 32767, 65535, 65535, 196607, 524287, 65535, 65535, 2162687, 7405567, 16777215, 33554431, 67108863, 134217727, 268435455, 536870911, 1073741823, 1073741823, 4294967295, 8589934591, 17179869183]
theorem laws_FnPagesSet.tab12 : rtab .any (opsOf Try.f4 12) = laws_FnPagesSet.T12 := by kernel_rfl
theorem laws_FnPagesSet.bits12 : waitsOk laws_FnPagesSet.T12.2 laws_FnPagesSet.B12 = true := by kernel_rfl
abbrev z4q0 : Array Bool := bQ 14 0
abbrev z4q1 : Array Bool := bQ 14 2
abbrev z4q2 : Array Bool := bQ 14 6
abbrev z4q3 : Array Bool := bQ 14 14
abbrev z4q4 : Array Bool := bQ 14 30
abbrev z4q5 : Array Bool := bQ 14 31
abbrev z4q6 : Array Bool := bQ 14 63
abbrev z4q7 : Array Bool := bQ 14 127
abbrev z4q8 : Array Bool := bQ 14 4095
abbrev z4q9 : Array Bool := bQ 14 255
abbrev z4q10 : Array Bool := bQ 14 2175
abbrev z4q11 : Array Bool := bQ 14 511
abbrev z4q12 : Array Bool := bQ 14 1023
abbrev z4q13 : Array Bool := bQ 14 2047
abbrev z4q14 : Array Bool := bQ 14 2303
abbrev z4q15 : Array Bool := bQ 14 2559
abbrev z4q16 : Array Bool := bQ 14 3071
abbrev z4q17 : Array Bool := bQ 14 8191
abbrev z4q18 : Array Bool := bQ 14 16383
abbrev z4q19 : Array Bool := bQ 35 0
abbrev z4q20 : Array Bool := bQ 35 1
abbrev z4q21 : Array Bool := bQ 35 3
abbrev z4q22 : Array Bool := bQ 35 19
abbrev z4q23 : Array Bool := bQ 35 23
abbrev z4q24 : Array Bool := bQ 35 31
abbrev z4q25 : Array Bool := bQ 35 63
abbrev z4q26 : Array Bool := bQ 35 127
abbrev z4q27 : Array Bool := bQ 35 255
abbrev z4q28 : Array Bool := bQ 35 511
abbrev z4q29 : Array Bool := bQ 35 1023
abbrev z4q30 : Array Bool := bQ 35 2047
abbrev z4q31 : Array Bool := bQ 35 4095
abbrev z4q32 : Array Bool := bQ 35 8191
abbrev z4q33 : Array Bool := bQ 35 16383
abbrev z4q34 : Array Bool := bQ 35 32767
abbrev z4q35 : Array Bool := bQ 35 65535
abbrev z4q36 : Array Bool := bQ 35 131071
abbrev z4q37 : Array Bool := bQ 35 262143
abbrev z4q38 : Array Bool := bQ 35 524287
abbrev z4q39 : Array Bool := bQ 35 1048575
abbrev z4q40 : Array Bool := bQ 35 2097151
abbrev z4q41 : Array Bool := bQ 35 4194303
abbrev z4q42 : Array Bool := bQ 35 8388607
abbrev z4q43 : Array Bool := bQ 35 16777215
abbrev z4q44 : Array Bool := bQ 35 33554431
abbrev z4q45 : Array Bool := bQ 35 67108863
abbrev z4q46 : Array Bool := bQ 35 134217727
abbrev z4q47 : Array Bool := bQ 35 268435455
abbrev z4q48 : Array Bool := bQ 35 536870911
abbrev z4q49 : Array Bool := bQ 35 1073741823
abbrev z4q50 : Array Bool := bQ 35 2147483647
abbrev z4q51 : Array Bool := bQ 35 4294967295
abbrev z4q52 : Array Bool := bQ 35 8589934591
abbrev z4q53 : Array Bool := bQ 35 17179869183
abbrev z4q54 : Array Bool := bQ 35 34359738367
set_option maxHeartbeats 2000000 in
set_option maxRecDepth 100000 in
theorem laws_FnPagesSet.calls (k:Nat) (A0:Option Addr) (c0:Nat) (l0:List Int) (r:Bool) (w:World) (hr0:Kd.C (Kd.int .u8) w A0 l0.length l0) (hc0:l0.length≤c0) (h:laws_FnPagesSet.f k l0=some r) (hT_:Aside0 (r=true)) :
  Calls Try.prog 4 #[.slice A0 l0.length c0] w fun e w'=>e=.returned (.bool r)∧Below w.heap.size w w':=by
 have hu26:=Try.underlying26
 have HR0:=Am hr0
 have HC0:=Am hc0
 clear hr0 hc0
 have HB:=Am (bJ w.heap.size w)
 have H:(if (l0.length:Int) > 1048576 then (some true) else ((spec_DrawPagesSet.f k l0).bind fun bt312=>((impl_PagesSet.f k bt312.1 bt312.2.1 bt312.2.2.1 bt312.2.2.2.1 bt312.2.2.2.2).bind fun bt322=>((spec_PagesSet.f k bt312.1 bt312.2.1 bt312.2.2.1 bt312.2.2.2.1 bt312.2.2.2.2).bind fun bt330=>((laws_qdPages.f k bt322.1 bt322.2.1 bt330.1 bt330.2.1).bind fun t338=>(if t338=true then (laws_FnPagesSet.j0 k bt312.2.2.1 bt312.2.2.2.1 bt312.2.2.2.2 bt322.2.2 (bt322.2.2 == bt330.2.2) bt312.1 bt312.2.1 bt322.1 bt322.2.1) else (laws_FnPagesSet.j0 k bt312.2.2.1 bt312.2.2.2.1 bt312.2.2.2.2 bt322.2.2 false bt312.1 bt312.2.1 bt322.1 bt322.2.1)))))))=some r:=h
 clear h
 by_cases c2:(l0.length:Int) > 1048576
 ·rw [if_pos c2] at H
  have c2b0:decide (1048576<(l0.length:Int))=true:=dT c2
  have c2b1:decide (1048576<l0.length)=true:=dT (by omega)
  clear c2
  obtain rfl:=oJ H
  go_enter Try.func4,Try.ntmps4
  go_wp2
  go_ret
  exact ⟨by first|rfl|(simp [errW_none,errW_some] <;> rfl)|(simp [*,errW_none,errW_some] <;> rfl),by repeat (first|(with_reducible first|exact HB.out|apply oA|apply pN|apply o1)|exact HB.out)⟩
 rw [if_neg c2] at H
 have c2b0:decide (1048576<(l0.length:Int))=false:=dF c2
 have c2b1:decide (1048576<l0.length)=false:=dF (by omega)
 clear c2
 replace H:=oC H
 obtain ⟨⟨t312,t315,t318,t319,t320⟩,A30,H⟩:=H
 replace H:((impl_PagesSet.f k t312 t315 t318 t319 t320).bind fun bt322=>((spec_PagesSet.f k t312 t315 t318 t319 t320).bind fun bt330=>((laws_qdPages.f k bt322.1 bt322.2.1 bt330.1 bt330.2.1).bind fun t338=>(if t338=true then (laws_FnPagesSet.j0 k t318 t319 t320 bt322.2.2 (bt322.2.2 == bt330.2.2) t312 t315 bt322.1 bt322.2.1) else (laws_FnPagesSet.j0 k t318 t319 t320 bt322.2.2 false t312 t315 bt322.1 bt322.2.1)))))=some r:=H
 have A3:=Am A30
 clear A30
 replace H:=oC H
 obtain ⟨⟨t322,t325,t328⟩,A40,H⟩:=H
 replace H:((spec_PagesSet.f k t312 t315 t318 t319 t320).bind fun bt330=>((laws_qdPages.f k t322 t325 bt330.1 bt330.2.1).bind fun t338=>(if t338=true then (laws_FnPagesSet.j0 k t318 t319 t320 t328 (t328 == bt330.2.2) t312 t315 t322 t325) else (laws_FnPagesSet.j0 k t318 t319 t320 t328 false t312 t315 t322 t325))))=some r:=H
 have A4:=Am A40
 clear A40
 replace H:=oC H
 obtain ⟨⟨t330,t333,t336⟩,A50,H⟩:=H
 replace H:((laws_qdPages.f k t322 t325 t330 t333).bind fun t338=>(if t338=true then (laws_FnPagesSet.j0 k t318 t319 t320 t328 (t328 == t336) t312 t315 t322 t325) else (laws_FnPagesSet.j0 k t318 t319 t320 t328 false t312 t315 t322 t325)))=some r:=H
 have A5:=Am A50
 clear A50
 have HC6:=Am H
 clear H
 go_enter Try.func4,Try.ntmps4
 go_upto_region 6 with (first|((with_reducible refine gC (f:=16) rfl ?_);refine goesL_ (some 23) rfl rfl Try.func16 (by kernel_rfl) rfl #[.slice A0 l0.length c0] rfl (by (try simp only [lM,lC,lN]);first|done|rfl|(simp only [lD,lT];rfl)) ?_;(with_reducible refine (spec_DrawPagesSet.calls k _ _ l0 t312 t315 t318 t319 t320 _ ?side1 ?side2 A3.out).mono ?_);(case side1=>exact cL HR0.out);(case side2=>exact HC0.out);rintro e w7 ⟨v313,v316,rfl,ho0,ho1,hb⟩;refine ⟨_,rfl,?_⟩;have n0_:=Am (rW ho0 (bZ (by repeat (first|(with_reducible first|exact HB.out|apply oA|apply pN|apply o1)|exact HB.out))));have n1_:=Am (rW ho1 (bZ (by repeat (first|(with_reducible first|exact HB.out|apply oA|apply pN|apply o1)|exact HB.out))));have n2_:=Am (bP (by repeat (first|(with_reducible first|exact HB.out|apply oA|apply pN|apply o1)|exact HB.out)) hb);clear HB;revert n0_ n1_ n2_;intro Bq Br HB;(try clear hb);(try clear hb2);(try clear hk);(try clear hi);(try clear ho0);(try clear ho1))|((with_reducible refine gD (N:=3) rfl ?_);refine bI ?hg (N:=3) ?hd (cs:=#[.slice none 0 0,.slice none 0 0]) (t:=26) ?hr ?_;(case hd=>rfl);(case hg=>rfl);(case hr=>first|(go_simp;done)|(go_simp;rfl));intro Bm hg w8 hbox hb;have n0_:=Am (rB (rL Bq.out) hb);have n1_:=Am (rB (rL Br.out) hb);have n2_:=Am (bP (by repeat (first|(with_reducible first|exact HB.out|apply oA|apply pN|apply o1)|exact HB.out)) hb);have n3_:=Am (hbox);have n4_:=Am ((by rw [hg];exact (bZ (by repeat (first|(with_reducible first|exact HB.out|apply oA|apply pN|apply o1)|exact HB.out))):w.heap.size≤Bm));have n5_:=Am ((by rw [hg];exact (bZ (by repeat (first|(with_reducible first|exact HB.out|apply oA|apply pN|apply o1)|exact HB.out))):w.heap.size≤Bm));clear Bq Br HB;revert n0_ n1_ n2_ n3_ n4_ n5_;intro Bq Br HB Bb Ds Bn;clear hb hbox hg;obtain ⟨Ao9,co9,eo9⟩:=rC Bq.out;subst eo9;have BN:=cz0 Bb.out;have BO:=cz1 Bb.out;have BP:=bF Bb.out 0;have BQ:=bF Bb.out 1;obtain ⟨Ao11,co11,eo11⟩:=rC Br.out;subst eo11)|((with_reducible refine gC (f:=17) rfl ?_);refine goesL_ (some 33) rfl rfl Try.func17 (by kernel_rfl) rfl #[.agg #[.slice Ao9 t312.length co9,.slice Ao11 t315.length co11],.int .i64 t318,.int .i64 t319,.int .i64 t320] rfl (by (try simp only [lM,lC,lN]);first|done|rfl|(simp only [lD,lT];rfl)) ?_;(with_reducible refine (impl_PagesSet.calls k _ _ t312 _ _ t315 t318 t319 t320 t322 t325 t328 _ ?side1 ?side2 ?side3 ?side4 A4.out).mono ?_);(case side1=>refine (rR (e:=9) (base:=w.heap.size) (ok:=fun k_=>True) (n:=t312.length) (c:=co9) ?_).2.2;exact (by (with_reducible repeat (first|apply rA|apply rN|apply rD));exact (rM (rF (p:=⟨Bm,1,none⟩) (rF (p:=⟨Bm,0,none⟩) (rT Bq.out Bb.out (by decide)) (fun _ hk=>hk.2) (.slice Ao9 t312.length co9)) (fun _ hk=>hk.2) (.slice Ao11 t315.length co11)) (fun _ h_=>h_.1))));(case side2=>exact (rR Bq.out).2.1);(case side3=>refine (rR (e:=3) (base:=w.heap.size) (ok:=fun k_=>True) (n:=t315.length) (c:=co11) ?_).2.2;exact (by (with_reducible repeat (first|apply rA|apply rN|apply rD));exact (rM (rF (p:=⟨Bm,1,none⟩) (rF (p:=⟨Bm,0,none⟩) (rT Br.out Bb.out (by decide)) (fun _ hk=>hk.2) (.slice Ao9 t312.length co9)) (fun _ hk=>hk.2) (.slice Ao11 t315.length co11)) (fun _ h_=>h_.1))));(case side4=>exact (rR Br.out).2.1);rintro e w12 ⟨v323,v326,rfl,ho0,ho1,hb⟩;refine ⟨_,rfl,?_⟩;have n0_:=Am (rX (by (with_reducible repeat (first|apply rA|apply rN|apply rD));exact (rM (rF (p:=⟨Bm,1,none⟩) (rF (p:=⟨Bm,0,none⟩) (rT Bq.out Bb.out (by decide)) (fun _ hk=>hk.2) (.slice Ao9 t312.length co9)) (fun _ hk=>hk.2) (.slice Ao11 t315.length co11)) (fun _ h_=>h_.1))) (rZ ho0) hb);have n1_:=Am (rX (by (with_reducible repeat (first|apply rA|apply rN|apply rD));exact (rM (rF (p:=⟨Bm,1,none⟩) (rF (p:=⟨Bm,0,none⟩) (rT Br.out Bb.out (by decide)) (fun _ hk=>hk.2) (.slice Ao9 t312.length co9)) (fun _ hk=>hk.2) (.slice Ao11 t315.length co11)) (fun _ h_=>h_.1))) (rZ ho1) hb);have n2_:=Am (rW (rQ ho0 (rI (by (with_reducible repeat (first|apply rA|apply rN|apply rD));exact (rM (rF (p:=⟨Bm,1,none⟩) (rF (p:=⟨Bm,0,none⟩) (rT Bq.out Bb.out (by decide)) (fun _ hk=>hk.2) (.slice Ao9 t312.length co9)) (fun _ hk=>hk.2) (.slice Ao11 t315.length co11)) (fun _ h_=>h_.1))))) (bZ (by repeat (first|(with_reducible first|exact HB.out|apply oA|apply pN|apply o1|refine bS ?_ Bn.out)|exact HB.out))));have n3_:=Am (rW (rQ ho1 (rI (by (with_reducible repeat (first|apply rA|apply rN|apply rD));exact (rM (rF (p:=⟨Bm,1,none⟩) (rF (p:=⟨Bm,0,none⟩) (rT Br.out Bb.out (by decide)) (fun _ hk=>hk.2) (.slice Ao9 t312.length co9)) (fun _ hk=>hk.2) (.slice Ao11 t315.length co11)) (fun _ h_=>h_.1))))) (bZ (by repeat (first|(with_reducible first|exact HB.out|apply oA|apply pN|apply o1|refine bS ?_ Bn.out)|exact HB.out))));have n4_:=Am (bB (g:=Bm) (o:=.cells #[.slice Ao9 t312.length co9,.slice Ao11 t315.length co11] 26 (0,0)) (by (with_reducible repeat (first|refine bN ?_ _|refine bD ?_|refine bA ?_ _));refine bT (cs:=#[.slice Ao9 t312.length co9,.slice none 0 0]) ?_ 1 _ rfl;(with_reducible repeat (first|refine bN ?_ _|refine bD ?_|refine bA ?_ _));refine bT (cs:=#[.slice none 0 0,.slice none 0 0]) ?_ 0 _ rfl;(with_reducible repeat (first|refine bN ?_ _|refine bD ?_|refine bA ?_ _));exact Bb.out) hb);have n5_:=Am (bP (by repeat (first|(with_reducible first|exact HB.out|apply oA|apply pN|apply o1|refine bS ?_ Bn.out)|exact HB.out)) hb);clear Bq Br Bb HB;revert n0_ n1_ n2_ n3_ n4_ n5_;intro Bq Br Bt Bu Bb HB;(try clear hb);(try clear hb2);(try clear hk);(try clear hi);(try clear ho0);(try clear ho1))|((with_reducible refine gD (N:=7) rfl ?_);refine bI ?hg (N:=7) ?hd (cs:=#[.slice none 0 0,.slice none 0 0]) (t:=26) ?hr ?_;(case hd=>rfl);(case hg=>rfl);(case hr=>first|(go_simp;done)|(go_simp;rfl));intro Bl hg w13 hbox hb;have n0_:=Am (rB (rL Bq.out) hb);have n1_:=Am (rB (rL Br.out) hb);have n2_:=Am (rB (rL Bt.out) hb);have n3_:=Am (rB (rL Bu.out) hb);have n4_:=Am (bX Bb.out hb);have n5_:=Am (bP (by repeat (first|(with_reducible first|exact HB.out|apply oA|apply pN|apply o1|refine bS ?_ Bn.out)|exact HB.out)) hb);have n6_:=Am (hbox);have n7_:=Am ((by rw [hg];exact (bZ (by repeat (first|(with_reducible first|exact HB.out|apply oA|apply pN|apply o1|refine bS ?_ Bn.out)|exact HB.out))):w.heap.size≤Bl));have n8_:=Am ((by rw [hg];exact (bZ (by repeat (first|(with_reducible first|exact HB.out|apply oA|apply pN|apply o1|refine bS ?_ Bn.out)|exact HB.out))):w.heap.size≤Bl));have n9_:=Am ((nL Bb.out hg));have n10_:=Am ((nG Bb.out hg));clear Bq Br Bt Bu Bb HB;revert n0_ n1_ n2_ n3_ n4_ n5_ n6_ n7_ n8_ n9_ n10_;intro Bq Br Bt Bu Bb HB Ba Dt Bp BI BJ;clear hb hbox hg;obtain ⟨Ao14,co14,eo14⟩:=rC Bt.out;subst eo14;have Du:=BJ.out;have Dv:=BI.out;have BR:=cz0 Ba.out;have BS:=cz1 Ba.out;have BT:=bF Ba.out 0;have BU:=bF Ba.out 1;obtain ⟨Ao17,co17,eo17⟩:=rC Bu.out;subst eo17;have BV:=cz0 Bb.out;have BW:=cz1 Bb.out;have BX:=bF Bb.out 0;have BY:=bF Bb.out 1)|((with_reducible refine gC (f:=18) rfl ?_);refine goesL_ (some 41) rfl rfl Try.func18 (by kernel_rfl) rfl #[.agg #[.slice Ao9 t312.length co9,.slice Ao11 t315.length co11],.int .i64 t318,.int .i64 t319,.int .i64 t320] rfl (by (try simp only [lM,lC,lN]);first|done|rfl|(simp only [lD,lT];rfl)) ?_;(with_reducible refine (spec_PagesSet.calls k _ _ t312 _ _ t315 t318 t319 t320 t330 t333 t336 _ ?side1 ?side2 ?side3 ?side4 A5.out).mono ?_);(case side1=>refine (rR (e:=9) (base:=w.heap.size) (ok:=fun k_=>(True∧some k_≠(.slice Ao14 t322.length co14:Value).ownBlock)) (n:=t312.length) (c:=co9) ?_).2.2;exact (by (with_reducible repeat (first|apply rA|apply rN|apply rD));exact (rM (rF (p:=⟨Bl,1,none⟩) (rF (p:=⟨Bl,0,none⟩) (rT Bq.out Ba.out (by decide)) (fun _ hk=>hk.2) (.slice Ao14 t322.length co14)) (fun _ hk=>hk.2) (.slice Ao17 t325.length co17)) (fun _ h_=>h_.1))));(case side2=>exact (rR Bq.out).2.1);(case side3=>refine (rR (e:=3) (base:=w.heap.size) (ok:=fun k_=>(True∧some k_≠(.slice Ao17 t325.length co17:Value).ownBlock)) (n:=t315.length) (c:=co11) ?_).2.2;exact (by (with_reducible repeat (first|apply rA|apply rN|apply rD));exact (rM (rF (p:=⟨Bl,1,none⟩) (rF (p:=⟨Bl,0,none⟩) (rT Br.out Ba.out (by decide)) (fun _ hk=>hk.2) (.slice Ao14 t322.length co14)) (fun _ hk=>hk.2) (.slice Ao17 t325.length co17)) (fun _ h_=>h_.1))));(case side4=>exact (rR Br.out).2.1);rintro e w19 ⟨v331,v334,rfl,ho0,ho1,hb⟩;refine ⟨_,rfl,?_⟩;have n0_:=Am (rX (by (with_reducible repeat (first|apply rA|apply rN|apply rD));exact (rM (rF (p:=⟨Bl,1,none⟩) (rF (p:=⟨Bl,0,none⟩) (rT Bq.out Ba.out (by decide)) (fun _ hk=>hk.2) (.slice Ao14 t322.length co14)) (fun _ hk=>hk.2) (.slice Ao17 t325.length co17)) (fun _ h_=>h_.1))) (rZ ho0) hb);have n1_:=Am (rX (by (with_reducible repeat (first|apply rA|apply rN|apply rD));exact (rM (rF (p:=⟨Bl,1,none⟩) (rF (p:=⟨Bl,0,none⟩) (rT Br.out Ba.out (by decide)) (fun _ hk=>hk.2) (.slice Ao14 t322.length co14)) (fun _ hk=>hk.2) (.slice Ao17 t325.length co17)) (fun _ h_=>h_.1))) (rZ ho1) hb);have n2_:=Am (rX (by (with_reducible repeat (first|apply rA|apply rN|apply rD));exact (rM (rF (p:=⟨Bl,1,none⟩) (rF (p:=⟨Bl,0,none⟩) (rT Bt.out Ba.out (by decide)) (fun _ hk=>hk.2) (.slice Ao14 t322.length co14)) (fun _ hk=>hk.2) (.slice Ao17 t325.length co17)) (fun _ h_=>h_.1))) (rZ ho0) hb);have n3_:=Am (rX (by (with_reducible repeat (first|apply rA|apply rN|apply rD));exact (rM (rF (p:=⟨Bl,1,none⟩) (rF (p:=⟨Bl,0,none⟩) (rT Bu.out Ba.out (by decide)) (fun _ hk=>hk.2) (.slice Ao14 t322.length co14)) (fun _ hk=>hk.2) (.slice Ao17 t325.length co17)) (fun _ h_=>h_.1))) (rZ ho1) hb);have n4_:=Am (rW (rQ (rQ ho0 (rI (by (with_reducible repeat (first|apply rA|apply rN|apply rD));exact (rM (rF (p:=⟨Bl,1,none⟩) (rF (p:=⟨Bl,0,none⟩) (rT Bq.out Ba.out (by decide)) (fun _ hk=>hk.2) (.slice Ao14 t322.length co14)) (fun _ hk=>hk.2) (.slice Ao17 t325.length co17)) (fun _ h_=>h_.1))))) (rI (by (with_reducible repeat (first|apply rA|apply rN|apply rD));exact (rM (rF (p:=⟨Bl,1,none⟩) (rF (p:=⟨Bl,0,none⟩) (rT Bt.out Ba.out (by decide)) (fun _ hk=>hk.2) (.slice Ao14 t322.length co14)) (fun _ hk=>hk.2) (.slice Ao17 t325.length co17)) (fun _ h_=>h_.1))))) (bZ (by repeat (first|(with_reducible first|exact HB.out|apply oA|apply pN|apply o1|refine bS ?_ Bn.out|refine bS ?_ Bp.out)|exact HB.out))));have n5_:=Am (rW (rQ (rQ ho1 (rI (by (with_reducible repeat (first|apply rA|apply rN|apply rD));exact (rM (rF (p:=⟨Bl,1,none⟩) (rF (p:=⟨Bl,0,none⟩) (rT Br.out Ba.out (by decide)) (fun _ hk=>hk.2) (.slice Ao14 t322.length co14)) (fun _ hk=>hk.2) (.slice Ao17 t325.length co17)) (fun _ h_=>h_.1))))) (rI (by (with_reducible repeat (first|apply rA|apply rN|apply rD));exact (rM (rF (p:=⟨Bl,1,none⟩) (rF (p:=⟨Bl,0,none⟩) (rT Bu.out Ba.out (by decide)) (fun _ hk=>hk.2) (.slice Ao14 t322.length co14)) (fun _ hk=>hk.2) (.slice Ao17 t325.length co17)) (fun _ h_=>h_.1))))) (bZ (by repeat (first|(with_reducible first|exact HB.out|apply oA|apply pN|apply o1|refine bS ?_ Bn.out|refine bS ?_ Bp.out)|exact HB.out))));have n6_:=Am (bB (g:=Bm) (o:=.cells #[.slice Ao9 t312.length co9,.slice Ao11 t315.length co11] 26 (0,0)) (by (with_reducible repeat (first|refine bN ?_ _|refine bD ?_|refine bA ?_ _|refine bE ?_ BI.out _));exact Bb.out) hb);have n7_:=Am (bB (g:=Bl) (o:=.cells #[.slice Ao14 t322.length co14,.slice Ao17 t325.length co17] 26 (0,0)) (by (with_reducible repeat (first|refine bN ?_ _|refine bD ?_|refine bA ?_ _));refine bT (cs:=#[.slice Ao14 t322.length co14,.slice none 0 0]) ?_ 1 _ rfl;(with_reducible repeat (first|refine bN ?_ _|refine bD ?_|refine bA ?_ _));refine bT (cs:=#[.slice none 0 0,.slice none 0 0]) ?_ 0 _ rfl;(with_reducible repeat (first|refine bN ?_ _|refine bD ?_|refine bA ?_ _));exact Ba.out) hb);have n8_:=Am (bP (by repeat (first|(with_reducible first|exact HB.out|apply oA|apply pN|apply o1|refine bS ?_ Bn.out|refine bS ?_ Bp.out)|exact HB.out)) hb);clear Bq Br Bt Bu Bb Ba HB;revert n0_ n1_ n2_ n3_ n4_ n5_ n6_ n7_ n8_;intro Bq Br Bt Bu By Bz Bb Ba HB;(try clear hb);(try clear hb2);(try clear hk);(try clear hi);(try clear ho0);(try clear ho1))|((with_reducible refine gD (N:=9) rfl ?_);refine bI ?hg (N:=9) ?hd (cs:=#[.slice none 0 0,.slice none 0 0]) (t:=26) ?hr ?_;(case hd=>rfl);(case hg=>rfl);(case hr=>first|(go_simp;done)|(go_simp;rfl));intro Bi hg w20 hbox hb;have n0_:=Am (rB (rL Bq.out) hb);have n1_:=Am (rB (rL Br.out) hb);have n2_:=Am (rB (rL Bt.out) hb);have n3_:=Am (rB (rL Bu.out) hb);have n4_:=Am (rB (rL By.out) hb);have n5_:=Am (rB (rL Bz.out) hb);have n6_:=Am (bX Bb.out hb);have n7_:=Am (bX Ba.out hb);have n8_:=Am (bP (by repeat (first|(with_reducible first|exact HB.out|apply oA|apply pN|apply o1|refine bS ?_ Bn.out|refine bS ?_ Bp.out)|exact HB.out)) hb);have n9_:=Am (hbox);have n10_:=Am ((by rw [hg];exact (bZ (by repeat (first|(with_reducible first|exact HB.out|apply oA|apply pN|apply o1|refine bS ?_ Bn.out|refine bS ?_ Bp.out)|exact HB.out))):w.heap.size≤Bi));have n11_:=Am ((by rw [hg];exact (bZ (by repeat (first|(with_reducible first|exact HB.out|apply oA|apply pN|apply o1|refine bS ?_ Bn.out|refine bS ?_ Bp.out)|exact HB.out))):w.heap.size≤Bi));have n12_:=Am ((nL Bb.out hg));have n13_:=Am ((nG Bb.out hg));have n14_:=Am ((nL Ba.out hg));have n15_:=Am ((nG Ba.out hg));clear Bq Br Bt Bu By Bz Bb Ba HB;revert n0_ n1_ n2_ n3_ n4_ n5_ n6_ n7_ n8_ n9_ n10_ n11_ n12_ n13_ n14_ n15_;intro Bq Br Bt Bu By Bz Bb Ba HB Be Dw Bs BD BK BE BL;clear hb hbox hg;obtain ⟨Ao21,co21,eo21⟩:=rC By.out;subst eo21;have Dx:=BK.out;have Dy:=BD.out;have Dz:=BL.out;have DA:=BE.out;have BZ:=cz0 Be.out;have B0:=cz1 Be.out;have B1:=bF Be.out 0;have B2:=bF Be.out 1;obtain ⟨Ao25,co25,eo25⟩:=rC Bz.out;subst eo25))
 (try simp only [Act.put,lA,lZ,lS])
 go_cut [11] (fun v11 wc=>∃ (kq:Nat) (x11_5:Bool),v11=.bool x11_5∧Aside0 (laws_FnPagesSet.j0 kq t318 t319 t320 t328 x11_5 t312 t315 t322 t325=some r)∧Aside0 (kq≤k)∧Aside0 (Kd.R Kd.string 9 wc w.heap.size (fun k_=>some k_≠((.slice Ao14 t322.length co14):Value).ownBlock∧some k_≠((.slice Ao21 t330.length co21):Value).ownBlock) (.slice Ao9 t312.length co9) t312)∧Aside0 (Kd.R (Kd.int .i64) 3 wc w.heap.size (fun k_=>some k_≠((.slice Ao17 t325.length co17):Value).ownBlock∧some k_≠((.slice Ao25 t333.length co25):Value).ownBlock) (.slice Ao11 t315.length co11) t315)∧Aside0 (Kd.R Kd.string 9 wc w.heap.size (fun k_=>some k_≠((.slice Ao9 t312.length co9):Value).ownBlock∧some k_≠((.slice Ao21 t330.length co21):Value).ownBlock) (.slice Ao14 t322.length co14) t322)∧Aside0 (Kd.R (Kd.int .i64) 3 wc w.heap.size (fun k_=>some k_≠((.slice Ao11 t315.length co11):Value).ownBlock∧some k_≠((.slice Ao25 t333.length co25):Value).ownBlock) (.slice Ao17 t325.length co17) t325)∧Aside0 (Kd.R Kd.string 9 wc w.heap.size (fun k_=>some k_≠((.slice Ao9 t312.length co9):Value).ownBlock∧some k_≠((.slice Ao14 t322.length co14):Value).ownBlock) (.slice Ao21 t330.length co21) t330)∧Aside0 (Kd.R (Kd.int .i64) 3 wc w.heap.size (fun k_=>some k_≠((.slice Ao11 t315.length co11):Value).ownBlock∧some k_≠((.slice Ao17 t325.length co17):Value).ownBlock) (.slice Ao25 t333.length co25) t333)∧Aside0 (wc.heap[Bm]?=some (.cells #[(.slice Ao9 t312.length co9),(.slice Ao11 t315.length co11)] 26 (0,0)))∧Aside0 (wc.heap[Bl]?=some (.cells #[(.slice Ao14 t322.length co14),(.slice Ao17 t325.length co17)] 26 (0,0)))∧Aside0 (wc.heap[Bi]?=some (.cells #[(.slice Ao21 t330.length co21),(.slice Ao25 t333.length co25)] 26 (0,0)))∧Aside0 (Below w.heap.size w wc))
 case first =>
  have H:=HC6.out
  clear HC6
  replace H:=oC H
  obtain ⟨t338,A260,H⟩:=H
  replace H:(if t338=true then (laws_FnPagesSet.j0 k t318 t319 t320 t328 (t328 == t336) t312 t315 t322 t325) else (laws_FnPagesSet.j0 k t318 t319 t320 t328 false t312 t315 t322 t325))=some r:=H
  have A26:=Am A260
  clear A260
  by_cases c27:t338=true
  ·subst c27
   have H1:(laws_FnPagesSet.j0 k t318 t319 t320 t328 (t328 == t336) t312 t315 t322 t325)=some r:=by rw [if_pos rfl] at H;exact H
   clear H
   have H:=H1
   clear H1
   have H':=Am H
   clear H
   have DB:=BJ.out
   have DC:=BI.out
   have DD:=BE.out
   have DE:=BL.out
   have B3:=cz0 Ba.out
   have B4:=cz1 Ba.out
   have B5:=bF Ba.out 0
   have B6:=bF Ba.out 1
   have DF:=BK.out
   have DG:=BD.out
   have B7:=cz0 Be.out
   have B8:=cz1 Be.out
   have B9:=bF Be.out 0
   have Da:=bF Be.out 1
   go_wp2_with (first|((with_reducible refine gC (f:=19) rfl ?_);refine goesL_ (some 46) rfl rfl Try.func19 (by kernel_rfl) rfl #[.agg #[.slice Ao14 t322.length co14,.slice Ao17 t325.length co17],.agg #[.slice Ao21 t330.length co21,.slice Ao25 t333.length co25]] rfl (by (try simp only [lM,lC,lN]);first|done|rfl|(simp only [lD,lT];rfl)) ?_;(with_reducible refine (laws_qdPages.calls k _ _ t322 _ _ t325 _ _ t330 _ _ t333 true _ ?side1 ?side2 ?side3 ?side4 ?side5 ?side6 ?side7 ?side8 A26.out).mono ?_);(case side1=>refine (rR (e:=9) (base:=w.heap.size) (ok:=fun k_=>((True∧some k_≠(.slice Ao9 t312.length co9:Value).ownBlock)∧some k_≠(.slice Ao21 t330.length co21:Value).ownBlock)) (n:=t322.length) (c:=co14) ?_).2.2;exact (by (with_reducible repeat (first|apply rA|apply rN|apply rD));exact (rM (rF (p:=⟨Bi,1,none⟩) (rF (p:=⟨Bi,0,none⟩) (rT Bt.out Be.out (by decide)) (fun _ hk=>hk.2) (.slice Ao21 t330.length co21)) (fun _ hk=>hk.2) (.slice Ao25 t333.length co25)) (fun _ h_=>h_.1))));(case side2=>exact (rR Bt.out).2.1);(case side3=>refine (rR (e:=3) (base:=w.heap.size) (ok:=fun k_=>((True∧some k_≠(.slice Ao11 t315.length co11:Value).ownBlock)∧some k_≠(.slice Ao25 t333.length co25:Value).ownBlock)) (n:=t325.length) (c:=co17) ?_).2.2;exact (by (with_reducible repeat (first|apply rA|apply rN|apply rD));exact (rM (rF (p:=⟨Bi,1,none⟩) (rF (p:=⟨Bi,0,none⟩) (rT Bu.out Be.out (by decide)) (fun _ hk=>hk.2) (.slice Ao21 t330.length co21)) (fun _ hk=>hk.2) (.slice Ao25 t333.length co25)) (fun _ h_=>h_.1))));(case side4=>exact (rR Bu.out).2.1);(case side5=>refine (rR (e:=9) (base:=w.heap.size) (ok:=fun k_=>((True∧some k_≠(.slice Ao9 t312.length co9:Value).ownBlock)∧some k_≠(.slice Ao14 t322.length co14:Value).ownBlock)) (n:=t330.length) (c:=co21) ?_).2.2;exact (by (with_reducible repeat (first|apply rA|apply rN|apply rD));exact (rM (rF (p:=⟨Bi,1,none⟩) (rF (p:=⟨Bi,0,none⟩) (rT By.out Be.out (by decide)) (fun _ hk=>hk.2) (.slice Ao21 t330.length co21)) (fun _ hk=>hk.2) (.slice Ao25 t333.length co25)) (fun _ h_=>h_.1))));(case side6=>exact (rR By.out).2.1);(case side7=>refine (rR (e:=3) (base:=w.heap.size) (ok:=fun k_=>((True∧some k_≠(.slice Ao11 t315.length co11:Value).ownBlock)∧some k_≠(.slice Ao17 t325.length co17:Value).ownBlock)) (n:=t333.length) (c:=co25) ?_).2.2;exact (by (with_reducible repeat (first|apply rA|apply rN|apply rD));exact (rM (rF (p:=⟨Bi,1,none⟩) (rF (p:=⟨Bi,0,none⟩) (rT Bz.out Be.out (by decide)) (fun _ hk=>hk.2) (.slice Ao21 t330.length co21)) (fun _ hk=>hk.2) (.slice Ao25 t333.length co25)) (fun _ h_=>h_.1))));(case side8=>exact (rR Bz.out).2.1);rintro e w33 ⟨rfl,hb⟩;refine ⟨_,rfl,?_⟩;have n0_:=Am (rB (by (with_reducible repeat (first|apply rA|apply rN|apply rD));exact (rM (rF (p:=⟨Bi,1,none⟩) (rF (p:=⟨Bi,0,none⟩) (rT Bq.out Be.out (by decide)) (fun _ hk=>hk.2) (.slice Ao21 t330.length co21)) (fun _ hk=>hk.2) (.slice Ao25 t333.length co25)) (fun _ h_=>h_.1))) hb);have n1_:=Am (rB (by (with_reducible repeat (first|apply rA|apply rN|apply rD));exact (rM (rF (p:=⟨Bi,1,none⟩) (rF (p:=⟨Bi,0,none⟩) (rT Br.out Be.out (by decide)) (fun _ hk=>hk.2) (.slice Ao21 t330.length co21)) (fun _ hk=>hk.2) (.slice Ao25 t333.length co25)) (fun _ h_=>h_.1))) hb);have n2_:=Am (rB (by (with_reducible repeat (first|apply rA|apply rN|apply rD));exact (rM (rF (p:=⟨Bi,1,none⟩) (rF (p:=⟨Bi,0,none⟩) (rT Bt.out Be.out (by decide)) (fun _ hk=>hk.2) (.slice Ao21 t330.length co21)) (fun _ hk=>hk.2) (.slice Ao25 t333.length co25)) (fun _ h_=>h_.1))) hb);have n3_:=Am (rB (by (with_reducible repeat (first|apply rA|apply rN|apply rD));exact (rM (rF (p:=⟨Bi,1,none⟩) (rF (p:=⟨Bi,0,none⟩) (rT Bu.out Be.out (by decide)) (fun _ hk=>hk.2) (.slice Ao21 t330.length co21)) (fun _ hk=>hk.2) (.slice Ao25 t333.length co25)) (fun _ h_=>h_.1))) hb);have n4_:=Am (rB (by (with_reducible repeat (first|apply rA|apply rN|apply rD));exact (rM (rF (p:=⟨Bi,1,none⟩) (rF (p:=⟨Bi,0,none⟩) (rT By.out Be.out (by decide)) (fun _ hk=>hk.2) (.slice Ao21 t330.length co21)) (fun _ hk=>hk.2) (.slice Ao25 t333.length co25)) (fun _ h_=>h_.1))) hb);have n5_:=Am (rB (by (with_reducible repeat (first|apply rA|apply rN|apply rD));exact (rM (rF (p:=⟨Bi,1,none⟩) (rF (p:=⟨Bi,0,none⟩) (rT Bz.out Be.out (by decide)) (fun _ hk=>hk.2) (.slice Ao21 t330.length co21)) (fun _ hk=>hk.2) (.slice Ao25 t333.length co25)) (fun _ h_=>h_.1))) hb);have n6_:=Am (bB (g:=Bm) (o:=.cells #[.slice Ao9 t312.length co9,.slice Ao11 t315.length co11] 26 (0,0)) (by (with_reducible repeat (first|refine bN ?_ _|refine bD ?_|refine bA ?_ _|refine bE ?_ BD.out _));exact Bb.out) hb);have n7_:=Am (bB (g:=Bl) (o:=.cells #[.slice Ao14 t322.length co14,.slice Ao17 t325.length co17] 26 (0,0)) (by (with_reducible repeat (first|refine bN ?_ _|refine bD ?_|refine bA ?_ _|refine bE ?_ BE.out _));exact Ba.out) hb);have n8_:=Am (bB (g:=Bi) (o:=.cells #[.slice Ao21 t330.length co21,.slice Ao25 t333.length co25] 26 (0,0)) (by (with_reducible repeat (first|refine bN ?_ _|refine bD ?_|refine bA ?_ _));refine bT (cs:=#[.slice Ao21 t330.length co21,.slice none 0 0]) ?_ 1 _ rfl;(with_reducible repeat (first|refine bN ?_ _|refine bD ?_|refine bA ?_ _));refine bT (cs:=#[.slice none 0 0,.slice none 0 0]) ?_ 0 _ rfl;(with_reducible repeat (first|refine bN ?_ _|refine bD ?_|refine bA ?_ _));exact Be.out) hb);have n9_:=Am (bP (by repeat (first|(with_reducible first|exact HB.out|apply oA|apply pN|apply o1|refine bS ?_ Bn.out|refine bS ?_ Bp.out|refine bS ?_ Bs.out)|exact HB.out)) hb);clear Bq Br Bt Bu By Bz Bb Ba Be HB;revert n0_ n1_ n2_ n3_ n4_ n5_ n6_ n7_ n8_ n9_;intro Bq Br Bt Bu By Bz Bb Ba Be HB;(try clear hb);(try clear hb2);(try clear hk);(try clear hi)))
   go_meet
   case rel=>exact ⟨_,((t328 == t336)),(by first|rfl|(simp;done)|(simp [*];done)),H',⟨by first|omega|exact nR _⟩,⟨by (with_reducible repeat (first|apply rA|apply rN|apply rD));exact rM Bq.out (fun _ hk=>⟨hk.1.2,hk.2⟩)⟩,⟨by (with_reducible repeat (first|apply rA|apply rN|apply rD));exact rM Br.out (fun _ hk=>⟨hk.1.2,hk.2⟩)⟩,⟨by (with_reducible repeat (first|apply rA|apply rN|apply rD));exact rM Bt.out (fun _ hk=>⟨hk.1.2,hk.2⟩)⟩,⟨by (with_reducible repeat (first|apply rA|apply rN|apply rD));exact rM Bu.out (fun _ hk=>⟨hk.1.2,hk.2⟩)⟩,⟨by (with_reducible repeat (first|apply rA|apply rN|apply rD));exact rM By.out (fun _ hk=>⟨hk.1.2,hk.2⟩)⟩,⟨by (with_reducible repeat (first|apply rA|apply rN|apply rD));exact rM Bz.out (fun _ hk=>⟨hk.1.2,hk.2⟩)⟩,⟨by (with_reducible repeat (first|refine bN ?_ _|refine bD ?_|refine bA ?_ _));exact Bb.out⟩,⟨by (with_reducible repeat (first|refine bN ?_ _|refine bD ?_|refine bA ?_ _));exact Ba.out⟩,⟨by (with_reducible repeat (first|refine bN ?_ _|refine bD ?_|refine bA ?_ _));exact Be.out⟩,⟨by repeat (first|(with_reducible first|exact HB.out|apply oA|apply pN|apply o1|refine bS ?_ Bn.out|refine bS ?_ Bp.out|refine bS ?_ Bs.out)|exact HB.out)⟩⟩
  replace c27:=Bool.eq_false_iff.mpr c27
  subst c27
  have H1:(laws_FnPagesSet.j0 k t318 t319 t320 t328 false t312 t315 t322 t325)=some r:=by rw [if_neg (show ¬ (false=true) by decide)] at H;exact H
  clear H
  have H:=H1
  clear H1
  have H':=Am H
  clear H
  have DH:=BJ.out
  have DI:=BI.out
  have DJ:=BE.out
  have DK:=BL.out
  have Db:=cz0 Ba.out
  have Dc:=cz1 Ba.out
  have Dd:=bF Ba.out 0
  have De:=bF Ba.out 1
  have DL:=BK.out
  have DM:=BD.out
  have Df:=cz0 Be.out
  have Dg:=cz1 Be.out
  have Dh:=bF Be.out 0
  have Di:=bF Be.out 1
  go_wp2_with (first|((with_reducible refine gC (f:=19) rfl ?_);refine goesL_ (some 46) rfl rfl Try.func19 (by kernel_rfl) rfl #[.agg #[.slice Ao14 t322.length co14,.slice Ao17 t325.length co17],.agg #[.slice Ao21 t330.length co21,.slice Ao25 t333.length co25]] rfl (by (try simp only [lM,lC,lN]);first|done|rfl|(simp only [lD,lT];rfl)) ?_;(with_reducible refine (laws_qdPages.calls k _ _ t322 _ _ t325 _ _ t330 _ _ t333 false _ ?side1 ?side2 ?side3 ?side4 ?side5 ?side6 ?side7 ?side8 A26.out).mono ?_);(case side1=>refine (rR (e:=9) (base:=w.heap.size) (ok:=fun k_=>((True∧some k_≠(.slice Ao9 t312.length co9:Value).ownBlock)∧some k_≠(.slice Ao21 t330.length co21:Value).ownBlock)) (n:=t322.length) (c:=co14) ?_).2.2;exact (by (with_reducible repeat (first|apply rA|apply rN|apply rD));exact (rM (rF (p:=⟨Bi,1,none⟩) (rF (p:=⟨Bi,0,none⟩) (rT Bt.out Be.out (by decide)) (fun _ hk=>hk.2) (.slice Ao21 t330.length co21)) (fun _ hk=>hk.2) (.slice Ao25 t333.length co25)) (fun _ h_=>h_.1))));(case side2=>exact (rR Bt.out).2.1);(case side3=>refine (rR (e:=3) (base:=w.heap.size) (ok:=fun k_=>((True∧some k_≠(.slice Ao11 t315.length co11:Value).ownBlock)∧some k_≠(.slice Ao25 t333.length co25:Value).ownBlock)) (n:=t325.length) (c:=co17) ?_).2.2;exact (by (with_reducible repeat (first|apply rA|apply rN|apply rD));exact (rM (rF (p:=⟨Bi,1,none⟩) (rF (p:=⟨Bi,0,none⟩) (rT Bu.out Be.out (by decide)) (fun _ hk=>hk.2) (.slice Ao21 t330.length co21)) (fun _ hk=>hk.2) (.slice Ao25 t333.length co25)) (fun _ h_=>h_.1))));(case side4=>exact (rR Bu.out).2.1);(case side5=>refine (rR (e:=9) (base:=w.heap.size) (ok:=fun k_=>((True∧some k_≠(.slice Ao9 t312.length co9:Value).ownBlock)∧some k_≠(.slice Ao14 t322.length co14:Value).ownBlock)) (n:=t330.length) (c:=co21) ?_).2.2;exact (by (with_reducible repeat (first|apply rA|apply rN|apply rD));exact (rM (rF (p:=⟨Bi,1,none⟩) (rF (p:=⟨Bi,0,none⟩) (rT By.out Be.out (by decide)) (fun _ hk=>hk.2) (.slice Ao21 t330.length co21)) (fun _ hk=>hk.2) (.slice Ao25 t333.length co25)) (fun _ h_=>h_.1))));(case side6=>exact (rR By.out).2.1);(case side7=>refine (rR (e:=3) (base:=w.heap.size) (ok:=fun k_=>((True∧some k_≠(.slice Ao11 t315.length co11:Value).ownBlock)∧some k_≠(.slice Ao17 t325.length co17:Value).ownBlock)) (n:=t333.length) (c:=co25) ?_).2.2;exact (by (with_reducible repeat (first|apply rA|apply rN|apply rD));exact (rM (rF (p:=⟨Bi,1,none⟩) (rF (p:=⟨Bi,0,none⟩) (rT Bz.out Be.out (by decide)) (fun _ hk=>hk.2) (.slice Ao21 t330.length co21)) (fun _ hk=>hk.2) (.slice Ao25 t333.length co25)) (fun _ h_=>h_.1))));(case side8=>exact (rR Bz.out).2.1);rintro e w39 ⟨rfl,hb⟩;refine ⟨_,rfl,?_⟩;have n0_:=Am (rB (by (with_reducible repeat (first|apply rA|apply rN|apply rD));exact (rM (rF (p:=⟨Bi,1,none⟩) (rF (p:=⟨Bi,0,none⟩) (rT Bq.out Be.out (by decide)) (fun _ hk=>hk.2) (.slice Ao21 t330.length co21)) (fun _ hk=>hk.2) (.slice Ao25 t333.length co25)) (fun _ h_=>h_.1))) hb);have n1_:=Am (rB (by (with_reducible repeat (first|apply rA|apply rN|apply rD));exact (rM (rF (p:=⟨Bi,1,none⟩) (rF (p:=⟨Bi,0,none⟩) (rT Br.out Be.out (by decide)) (fun _ hk=>hk.2) (.slice Ao21 t330.length co21)) (fun _ hk=>hk.2) (.slice Ao25 t333.length co25)) (fun _ h_=>h_.1))) hb);have n2_:=Am (rB (by (with_reducible repeat (first|apply rA|apply rN|apply rD));exact (rM (rF (p:=⟨Bi,1,none⟩) (rF (p:=⟨Bi,0,none⟩) (rT Bt.out Be.out (by decide)) (fun _ hk=>hk.2) (.slice Ao21 t330.length co21)) (fun _ hk=>hk.2) (.slice Ao25 t333.length co25)) (fun _ h_=>h_.1))) hb);have n3_:=Am (rB (by (with_reducible repeat (first|apply rA|apply rN|apply rD));exact (rM (rF (p:=⟨Bi,1,none⟩) (rF (p:=⟨Bi,0,none⟩) (rT Bu.out Be.out (by decide)) (fun _ hk=>hk.2) (.slice Ao21 t330.length co21)) (fun _ hk=>hk.2) (.slice Ao25 t333.length co25)) (fun _ h_=>h_.1))) hb);have n4_:=Am (rB (by (with_reducible repeat (first|apply rA|apply rN|apply rD));exact (rM (rF (p:=⟨Bi,1,none⟩) (rF (p:=⟨Bi,0,none⟩) (rT By.out Be.out (by decide)) (fun _ hk=>hk.2) (.slice Ao21 t330.length co21)) (fun _ hk=>hk.2) (.slice Ao25 t333.length co25)) (fun _ h_=>h_.1))) hb);have n5_:=Am (rB (by (with_reducible repeat (first|apply rA|apply rN|apply rD));exact (rM (rF (p:=⟨Bi,1,none⟩) (rF (p:=⟨Bi,0,none⟩) (rT Bz.out Be.out (by decide)) (fun _ hk=>hk.2) (.slice Ao21 t330.length co21)) (fun _ hk=>hk.2) (.slice Ao25 t333.length co25)) (fun _ h_=>h_.1))) hb);have n6_:=Am (bB (g:=Bm) (o:=.cells #[.slice Ao9 t312.length co9,.slice Ao11 t315.length co11] 26 (0,0)) (by (with_reducible repeat (first|refine bN ?_ _|refine bD ?_|refine bA ?_ _|refine bE ?_ BD.out _));exact Bb.out) hb);have n7_:=Am (bB (g:=Bl) (o:=.cells #[.slice Ao14 t322.length co14,.slice Ao17 t325.length co17] 26 (0,0)) (by (with_reducible repeat (first|refine bN ?_ _|refine bD ?_|refine bA ?_ _|refine bE ?_ BE.out _));exact Ba.out) hb);have n8_:=Am (bB (g:=Bi) (o:=.cells #[.slice Ao21 t330.length co21,.slice Ao25 t333.length co25] 26 (0,0)) (by (with_reducible repeat (first|refine bN ?_ _|refine bD ?_|refine bA ?_ _));refine bT (cs:=#[.slice Ao21 t330.length co21,.slice none 0 0]) ?_ 1 _ rfl;(with_reducible repeat (first|refine bN ?_ _|refine bD ?_|refine bA ?_ _));refine bT (cs:=#[.slice none 0 0,.slice none 0 0]) ?_ 0 _ rfl;(with_reducible repeat (first|refine bN ?_ _|refine bD ?_|refine bA ?_ _));exact Be.out) hb);have n9_:=Am (bP (by repeat (first|(with_reducible first|exact HB.out|apply oA|apply pN|apply o1|refine bS ?_ Bn.out|refine bS ?_ Bp.out|refine bS ?_ Bs.out)|exact HB.out)) hb);clear Bq Br Bt Bu By Bz Bb Ba Be HB;revert n0_ n1_ n2_ n3_ n4_ n5_ n6_ n7_ n8_ n9_;intro Bq Br Bt Bu By Bz Bb Ba Be HB;(try clear hb);(try clear hb2);(try clear hk);(try clear hi)))
  go_meet
  case rel=>exact ⟨_,(false),(by first|rfl|(simp;done)|(simp [*];done)),H',⟨by first|omega|exact nR _⟩,⟨by (with_reducible repeat (first|apply rA|apply rN|apply rD));exact rM Bq.out (fun _ hk=>⟨hk.1.2,hk.2⟩)⟩,⟨by (with_reducible repeat (first|apply rA|apply rN|apply rD));exact rM Br.out (fun _ hk=>⟨hk.1.2,hk.2⟩)⟩,⟨by (with_reducible repeat (first|apply rA|apply rN|apply rD));exact rM Bt.out (fun _ hk=>⟨hk.1.2,hk.2⟩)⟩,⟨by (with_reducible repeat (first|apply rA|apply rN|apply rD));exact rM Bu.out (fun _ hk=>⟨hk.1.2,hk.2⟩)⟩,⟨by (with_reducible repeat (first|apply rA|apply rN|apply rD));exact rM By.out (fun _ hk=>⟨hk.1.2,hk.2⟩)⟩,⟨by (with_reducible repeat (first|apply rA|apply rN|apply rD));exact rM Bz.out (fun _ hk=>⟨hk.1.2,hk.2⟩)⟩,⟨by (with_reducible repeat (first|refine bN ?_ _|refine bD ?_|refine bA ?_ _));exact Bb.out⟩,⟨by (with_reducible repeat (first|refine bN ?_ _|refine bD ?_|refine bA ?_ _));exact Ba.out⟩,⟨by (with_reducible repeat (first|refine bN ?_ _|refine bD ?_|refine bA ?_ _));exact Be.out⟩,⟨by repeat (first|(with_reducible first|exact HB.out|apply oA|apply pN|apply o1|refine bS ?_ Bn.out|refine bS ?_ Bp.out|refine bS ?_ Bs.out)|exact HB.out)⟩⟩
 case rest =>
  clear HC6
  try clear c1
  try clear c2
  try clear c2b0
  try clear c2b1
  try clear p2
  try clear c3
  try clear c4
  try clear c15
  try clear c16
  try clear c17
  try clear c18
  try clear c19
  try clear c22
  try clear c23
  try clear c27
  try clear c28
  try clear c29
  try clear c31
  try clear c34
  try clear c35
  try clear c37
  try clear BN
  try clear BO
  try clear BR
  try clear BS
  try clear BV
  try clear BW
  try clear BZ
  try clear B0
  try clear B3
  try clear B4
  try clear B7
  try clear B8
  try clear Db
  try clear Dc
  try clear Df
  try clear Dg
  try clear BP
  try clear BQ
  try clear BT
  try clear BU
  try clear BX
  try clear BY
  try clear B1
  try clear B2
  try clear B5
  try clear B6
  try clear B9
  try clear Da
  try clear Dd
  try clear De
  try clear Dh
  try clear Di
  obtain ⟨kq,x11_5,rfl,HA,Dj,Bg,Bh,Bc,Bd,Bj,Bk,Bb,Ba,Be,HB⟩:=hcut
  cases kq with
 |zero=>exact absurd HA.out (by simp [laws_FnPagesSet.j0])
 |succ kj5 =>
   have H:=HA.out
   clear HA
   simp only [laws_FnPagesSet.j0] at H
   have HC40:=Am H
   clear H
   go_upto_region 7 with (fail)
   go_cut [57] (fun v57 wc=>∃ (kq:Nat) (x57_39:Bool),v57=.bool x57_39∧Aside0 (laws_FnPagesSet.j1 kq t318 t319 t320 x11_5 x57_39 t312 t315 t322 t325=some r)∧Aside0 (kq≤kj5)∧Aside0 (Kd.R Kd.string 9 wc w.heap.size (fun k_=>some k_≠((.slice Ao14 t322.length co14):Value).ownBlock∧some k_≠((.slice Ao21 t330.length co21):Value).ownBlock) (.slice Ao9 t312.length co9) t312)∧Aside0 (Kd.R (Kd.int .i64) 3 wc w.heap.size (fun k_=>some k_≠((.slice Ao17 t325.length co17):Value).ownBlock∧some k_≠((.slice Ao25 t333.length co25):Value).ownBlock) (.slice Ao11 t315.length co11) t315)∧Aside0 (Kd.R Kd.string 9 wc w.heap.size (fun k_=>some k_≠((.slice Ao9 t312.length co9):Value).ownBlock∧some k_≠((.slice Ao21 t330.length co21):Value).ownBlock) (.slice Ao14 t322.length co14) t322)∧Aside0 (Kd.R (Kd.int .i64) 3 wc w.heap.size (fun k_=>some k_≠((.slice Ao11 t315.length co11):Value).ownBlock∧some k_≠((.slice Ao25 t333.length co25):Value).ownBlock) (.slice Ao17 t325.length co17) t325)∧Aside0 (Kd.R Kd.string 9 wc w.heap.size (fun k_=>some k_≠((.slice Ao9 t312.length co9):Value).ownBlock∧some k_≠((.slice Ao14 t322.length co14):Value).ownBlock) (.slice Ao21 t330.length co21) t330)∧Aside0 (Kd.R (Kd.int .i64) 3 wc w.heap.size (fun k_=>some k_≠((.slice Ao11 t315.length co11):Value).ownBlock∧some k_≠((.slice Ao17 t325.length co17):Value).ownBlock) (.slice Ao25 t333.length co25) t333)∧Aside0 (wc.heap[Bm]?=some (.cells #[(.slice Ao9 t312.length co9),(.slice Ao11 t315.length co11)] 26 (0,0)))∧Aside0 (wc.heap[Bl]?=some (.cells #[(.slice Ao14 t322.length co14),(.slice Ao17 t325.length co17)] 26 (0,0)))∧Aside0 (wc.heap[Bi]?=some (.cells #[(.slice Ao21 t330.length co21),(.slice Ao25 t333.length co25)] 26 (0,0)))∧Aside0 (Below w.heap.size w wc))
   case first =>
    have H:=HC40.out
    clear HC40
    by_cases c41:x11_5=true
    ·subst c41
     have H1:(laws_FnPagesSet.j1 kj5 t318 t319 t320 true (!t328) t312 t315 t322 t325)=some r:=by rw [if_pos rfl] at H;exact H
     clear H
     have H:=H1
     clear H1
     have H':=Am H
     clear H
     go_wp2
     go_meet
     case rel=>exact ⟨_,(!t328),(by first|rfl|(simp;done)|(simp [*];done)),H',⟨by have:=Dj.out;first|omega|exact nR _⟩,⟨by (with_reducible repeat (first|apply rA|apply rN|apply rD));exact Bg.out⟩,⟨by (with_reducible repeat (first|apply rA|apply rN|apply rD));exact Bh.out⟩,⟨by (with_reducible repeat (first|apply rA|apply rN|apply rD));exact Bc.out⟩,⟨by (with_reducible repeat (first|apply rA|apply rN|apply rD));exact Bd.out⟩,⟨by (with_reducible repeat (first|apply rA|apply rN|apply rD));exact Bj.out⟩,⟨by (with_reducible repeat (first|apply rA|apply rN|apply rD));exact Bk.out⟩,⟨by (with_reducible repeat (first|refine bN ?_ _|refine bD ?_|refine bA ?_ _));exact Bb.out⟩,⟨by (with_reducible repeat (first|refine bN ?_ _|refine bD ?_|refine bA ?_ _));exact Ba.out⟩,⟨by (with_reducible repeat (first|refine bN ?_ _|refine bD ?_|refine bA ?_ _));exact Be.out⟩,⟨by repeat (first|(with_reducible first|exact HB.out|apply oA|apply pN|apply o1|refine bS ?_ Bn.out|refine bS ?_ Bp.out|refine bS ?_ Bs.out)|exact HB.out)⟩⟩
    replace c41:=Bool.eq_false_iff.mpr c41
    subst c41
    have H1:(laws_FnPagesSet.j1 kj5 t318 t319 t320 false true t312 t315 t322 t325)=some r:=by rw [if_neg (show ¬ (false=true) by decide)] at H;exact H
    clear H
    have H:=H1
    clear H1
    have H':=Am H
    clear H
    go_wp2
    go_meet
    case rel=>exact ⟨_,(true),(by first|rfl|(simp;done)|(simp [*];done)),H',⟨by have:=Dj.out;first|omega|exact nR _⟩,⟨by (with_reducible repeat (first|apply rA|apply rN|apply rD));exact Bg.out⟩,⟨by (with_reducible repeat (first|apply rA|apply rN|apply rD));exact Bh.out⟩,⟨by (with_reducible repeat (first|apply rA|apply rN|apply rD));exact Bc.out⟩,⟨by (with_reducible repeat (first|apply rA|apply rN|apply rD));exact Bd.out⟩,⟨by (with_reducible repeat (first|apply rA|apply rN|apply rD));exact Bj.out⟩,⟨by (with_reducible repeat (first|apply rA|apply rN|apply rD));exact Bk.out⟩,⟨by (with_reducible repeat (first|refine bN ?_ _|refine bD ?_|refine bA ?_ _));exact Bb.out⟩,⟨by (with_reducible repeat (first|refine bN ?_ _|refine bD ?_|refine bA ?_ _));exact Ba.out⟩,⟨by (with_reducible repeat (first|refine bN ?_ _|refine bD ?_|refine bA ?_ _));exact Be.out⟩,⟨by repeat (first|(with_reducible first|exact HB.out|apply oA|apply pN|apply o1|refine bS ?_ Bn.out|refine bS ?_ Bp.out|refine bS ?_ Bs.out)|exact HB.out)⟩⟩
   case rest =>
    clear HC40
    try clear c1
    try clear c2
    try clear c2b0
    try clear c2b1
    try clear p2
    try clear c3
    try clear c4
    try clear c15
    try clear c16
    try clear c17
    try clear c18
    try clear c19
    try clear c22
    try clear c23
    try clear c27
    try clear c28
    try clear c29
    try clear c31
    try clear c34
    try clear c35
    try clear c37
    try clear c41
    try clear BN
    try clear BO
    try clear BR
    try clear BS
    try clear BV
    try clear BW
    try clear BZ
    try clear B0
    try clear B3
    try clear B4
    try clear B7
    try clear B8
    try clear Db
    try clear Dc
    try clear Df
    try clear Dg
    try clear BP
    try clear BQ
    try clear BT
    try clear BU
    try clear BX
    try clear BY
    try clear B1
    try clear B2
    try clear B5
    try clear B6
    try clear B9
    try clear Da
    try clear Dd
    try clear De
    try clear Dh
    try clear Di
    try clear p2
    obtain ⟨kq,x57_39,rfl,HA,DT,Bg,Bh,Bc,Bd,Bj,Bk,Bb,Ba,Be,HB⟩:=hcut
    cases kq with
   |zero=>exact absurd HA.out (by simp [laws_FnPagesSet.j1])
   |succ kj39 =>
     have H:=HA.out
     clear HA
     simp only [laws_FnPagesSet.j1] at H
     by_cases c42:x57_39=true
     ·subst c42
      have H1:(some x11_5)=some r:=by rw [if_pos rfl] at H;exact H
      clear H
      have H:=H1
      clear H1
      obtain rfl:=oJ H
      go_wp2
      go_ret
      exact ⟨by first|rfl|(simp [errW_none,errW_some] <;> rfl)|(simp [*,errW_none,errW_some] <;> rfl),by repeat (first|(with_reducible first|exact HB.out|apply oA|apply pN|apply o1|refine bS ?_ Bn.out|refine bS ?_ Bp.out|refine bS ?_ Bs.out)|exact HB.out)⟩
     replace c42:=Bool.eq_false_iff.mpr c42
     subst c42
     have H1:((impl_PagesGet.f kj39 t322 t325 t318).bind fun bt339=>((impl_PagesGet.f kj39 t312 t315 t318).bind fun bt341=>(if 0≤t319 then (if t319<(bt341.1.size:Int) then ((impl_PagesSet.f kj39 t322 t325 t318 t319 (wrap64 (bt bt341.1 t319))).bind fun bt343=>(if t319<(bt339.1.size:Int) then (if (wrap64 (bt bt339.1 t319))=t320 then (if t319≤(bt339.1.size:Int) then (if t319≤(bt341.1.size:Int) then (if (bt339.1.extract 0 (t319:Int).toNat).toList=(bt341.1.extract 0 (t319:Int).toNat).toList then (if 0≤(wrap64 (t319 + 1)) then (if (wrap64 (t319 + 1))≤(bt339.1.size:Int) then (if (wrap64 (t319 + 1))≤(bt341.1.size:Int) then (if (bt339.1.extract ((wrap64 (t319 + 1)):Int).toNat bt339.1.size).toList=(bt341.1.extract ((wrap64 (t319 + 1)):Int).toNat bt341.1.size).toList then (if bt343.2.2=true then ((laws_qdPages.f kj39 bt343.1 bt343.2.1 t312 t315).bind fun t351=>(some t351)) else (some false)) else (some false)) else (none)) else (none)) else (none)) else (some false)) else (none)) else (none)) else (some false)) else (none))) else (none)) else (none))))=some r:=by rw [if_neg (show ¬ (false=true) by decide)] at H;exact H
     clear H
     have H:=H1
     clear H1
     replace H:=oC H
     obtain ⟨⟨t339,t340⟩,A430,H⟩:=H
     replace H:((impl_PagesGet.f kj39 t312 t315 t318).bind fun bt341=>(if 0≤t319 then (if t319<(bt341.1.size:Int) then ((impl_PagesSet.f kj39 t322 t325 t318 t319 (wrap64 (bt bt341.1 t319))).bind fun bt343=>(if t319<(t339.size:Int) then (if (wrap64 (bt t339 t319))=t320 then (if t319≤(t339.size:Int) then (if t319≤(bt341.1.size:Int) then (if (t339.extract 0 (t319:Int).toNat).toList=(bt341.1.extract 0 (t319:Int).toNat).toList then (if 0≤(wrap64 (t319 + 1)) then (if (wrap64 (t319 + 1))≤(t339.size:Int) then (if (wrap64 (t319 + 1))≤(bt341.1.size:Int) then (if (t339.extract ((wrap64 (t319 + 1)):Int).toNat t339.size).toList=(bt341.1.extract ((wrap64 (t319 + 1)):Int).toNat bt341.1.size).toList then (if bt343.2.2=true then ((laws_qdPages.f kj39 bt343.1 bt343.2.1 t312 t315).bind fun t351=>(some t351)) else (some false)) else (some false)) else (none)) else (none)) else (none)) else (some false)) else (none)) else (none)) else (some false)) else (none))) else (none)) else (none)))=some r:=H
     have A43:=Am A430
     clear A430
     replace H:=oC H
     obtain ⟨⟨t341,t342⟩,A440,H⟩:=H
     replace H:(if 0≤t319 then (if t319<(t341.size:Int) then ((impl_PagesSet.f kj39 t322 t325 t318 t319 (wrap64 (bt t341 t319))).bind fun bt343=>(if t319<(t339.size:Int) then (if (wrap64 (bt t339 t319))=t320 then (if t319≤(t339.size:Int) then (if t319≤(t341.size:Int) then (if (t339.extract 0 (t319:Int).toNat).toList=(t341.extract 0 (t319:Int).toNat).toList then (if 0≤(wrap64 (t319 + 1)) then (if (wrap64 (t319 + 1))≤(t339.size:Int) then (if (wrap64 (t319 + 1))≤(t341.size:Int) then (if (t339.extract ((wrap64 (t319 + 1)):Int).toNat t339.size).toList=(t341.extract ((wrap64 (t319 + 1)):Int).toNat t341.size).toList then (if bt343.2.2=true then ((laws_qdPages.f kj39 bt343.1 bt343.2.1 t312 t315).bind fun t351=>(some t351)) else (some false)) else (some false)) else (none)) else (none)) else (none)) else (some false)) else (none)) else (none)) else (some false)) else (none))) else (none)) else (none))=some r:=H
     have A44:=Am A440
     clear A440
     by_cases c45:0≤t319
     rotate_left
     ·rw [if_neg c45] at H
      exact absurd H (by simp)

     rw [if_pos c45] at H
     have c45b0:decide (0≤t319)=true:=dT c45
     clear c45
     by_cases c46:t319<(t341.size:Int)
     rotate_left
     ·rw [if_neg c46] at H
      exact absurd H (by simp)
     rw [if_pos c46] at H
     have c46b0:decide (t319<(t341.size:Int))=true:=dT c46
     clear c46
     replace H:=oC H
     obtain ⟨⟨t343,t346,t349⟩,A480,H⟩:=H
     replace H:(if t319<(t339.size:Int) then (if (wrap64 (bt t339 t319))=t320 then (if t319≤(t339.size:Int) then (if t319≤(t341.size:Int) then (if (t339.extract 0 (t319:Int).toNat).toList=(t341.extract 0 (t319:Int).toNat).toList then (if 0≤(wrap64 (t319 + 1)) then (if (wrap64 (t319 + 1))≤(t339.size:Int) then (if (wrap64 (t319 + 1))≤(t341.size:Int) then (if (t339.extract ((wrap64 (t319 + 1)):Int).toNat t339.size).toList=(t341.extract ((wrap64 (t319 + 1)):Int).toNat t341.size).toList then (if t349=true then ((laws_qdPages.f kj39 t343 t346 t312 t315).bind fun t351=>(some t351)) else (some false)) else (some false)) else (none)) else (none)) else (none)) else (some false)) else (none)) else (none)) else (some false)) else (none))=some r:=H
     have A48:=Am A480
     clear A480
     by_cases c49:t319<(t339.size:Int)
     rotate_left
     ·rw [if_neg c49] at H
      exact absurd H (by simp)
     rw [if_pos c49] at H
     have c49b0:decide (t319<(t339.size:Int))=true:=dT c49
     clear c49
     by_cases c51:(wrap64 (bt t339 t319))=t320
     rotate_left
     ·rw [if_neg c51] at H
      have c51b0:((wrap64 (bt t339 t319)) == t320)=false:=beq_eq_false_iff_ne.mpr c51
      have c51b1:((wrap64 (bt t339 t319)) != t320)=true:=bne_iff_ne.mpr c51
      exact absurd ((oJ H).trans hT_.out) (by decide)
     rw [if_pos c51] at H
     have c51b0:((wrap64 (bt t339 t319)) == t320)=true:=beq_iff_eq.mpr c51
     have c51b1:((wrap64 (bt t339 t319)) != t320)=false:=bne_eq_false_iff_eq.mpr c51
     clear c51
     have c52b0:=eq_true (oE (by first|(with_reducible assumption)|assumption):0≤t319)
     by_cases c53:t319≤(t339.size:Int)
     rotate_left
     ·rw [if_neg c53] at H
      exact absurd H (by simp)
     rw [if_pos c53] at H
     have c53b0:=eq_true c53
     have c53b1:decide (t319≤(t339.size:Int))=true:=dT c53
     clear c53
     have c54b0:=eq_true (oE (by first|(with_reducible assumption)|assumption):0≤t319)
     by_cases c55:t319≤(t341.size:Int)
     rotate_left
     ·rw [if_neg c55] at H
      exact absurd H (by simp)
     rw [if_pos c55] at H
     have c55b0:=eq_true c55
     have c55b1:decide (t319≤(t341.size:Int))=true:=dT c55
     clear c55
     by_cases c56:(t339.extract 0 (t319:Int).toNat).toList=(t341.extract 0 (t319:Int).toNat).toList
     rotate_left
     ·rw [if_neg c56] at H
      have c56b0:((t339.extract 0 (t319:Int).toNat).toList == (t341.extract 0 (t319:Int).toNat).toList)=false:=beq_eq_false_iff_ne.mpr c56
      have c56b1:((t339.extract 0 (t319:Int).toNat).toList != (t341.extract 0 (t319:Int).toNat).toList)=true:=bne_iff_ne.mpr c56
      exact absurd ((oJ H).trans hT_.out) (by decide)
     rw [if_pos c56] at H
     have c56b0:((t339.extract 0 (t319:Int).toNat).toList == (t341.extract 0 (t319:Int).toNat).toList)=true:=beq_iff_eq.mpr c56
     have c56b1:((t339.extract 0 (t319:Int).toNat).toList != (t341.extract 0 (t319:Int).toNat).toList)=false:=bne_eq_false_iff_eq.mpr c56
     clear c56
     obtain ⟨ji57,hji57⟩:∃ j_:Int,(wrap64 (t319 + 1))=j_:=⟨_,rfl⟩
     replace H:(if 0≤(ji57) then (if (ji57)≤(t339.size:Int) then (if (ji57)≤(t341.size:Int) then (if (t339.extract ((ji57):Int).toNat t339.size).toList=(t341.extract ((ji57):Int).toNat t341.size).toList then (if t349=true then ((laws_qdPages.f kj39 t343 t346 t312 t315).bind fun t351=>(some t351)) else (some false)) else (some false)) else (none)) else (none)) else (none))=some r:=by first|(rw [hji57] at H;exact H)|(simp only [hji57] at H ⊢;exact H)
     (try rw [hji57] at A43)
     (try rw [hji57] at A44)
     (try rw [hji57] at A48)
     have hji57w:(IntKind.i64.wrap (t319 + 1))=ji57:=(i64_w _).trans hji57
     by_cases c58:0≤(ji57)
     rotate_left
     ·rw [if_neg c58] at H
      exact absurd H (by simp)
     rw [if_pos c58] at H
     have c58b0:=eq_true c58
     have c58b1:decide (0≤(ji57))=true:=dT c58
     clear c58
     by_cases c59:(ji57)≤(t339.size:Int)
     rotate_left
     ·rw [if_neg c59] at H
      exact absurd H (by simp)
     rw [if_pos c59] at H
     have c59b0:=eq_true c59
     have c59b1:decide ((ji57)≤(t339.size:Int))=true:=dT c59
     clear c59
     have c60b0:=eq_true (oE (by first|(with_reducible assumption)|assumption):0≤(ji57))
     by_cases c61:(ji57)≤(t341.size:Int)
     rotate_left
     ·rw [if_neg c61] at H
      exact absurd H (by simp)
     rw [if_pos c61] at H
     have c61b0:=eq_true c61
     have c61b1:decide ((ji57)≤(t341.size:Int))=true:=dT c61
     clear c61
     by_cases c62:(t339.extract ((ji57):Int).toNat t339.size).toList=(t341.extract ((ji57):Int).toNat t341.size).toList
     rotate_left
     ·rw [if_neg c62] at H
      have c62b0:((t339.extract ((ji57):Int).toNat t339.size).toList == (t341.extract ((ji57):Int).toNat t341.size).toList)=false:=beq_eq_false_iff_ne.mpr c62
      have c62b1:((t339.extract ((ji57):Int).toNat t339.size).toList != (t341.extract ((ji57):Int).toNat t341.size).toList)=true:=bne_iff_ne.mpr c62
      exact absurd ((oJ H).trans hT_.out) (by decide)
     rw [if_pos c62] at H
     have c62b0:((t339.extract ((ji57):Int).toNat t339.size).toList == (t341.extract ((ji57):Int).toNat t341.size).toList)=true:=beq_iff_eq.mpr c62
     have c62b1:((t339.extract ((ji57):Int).toNat t339.size).toList != (t341.extract ((ji57):Int).toNat t341.size).toList)=false:=bne_eq_false_iff_eq.mpr c62
     clear c62
     by_cases c63:t349=true
     rotate_left
     ·replace c63:=Bool.eq_false_iff.mpr c63
      subst c63
      have H1:(some false)=some r:=by rw [if_neg (show ¬ (false=true) by decide)] at H;exact H
      clear H
      have H:=H1
      clear H1
      exact absurd ((oJ H).trans hT_.out) (by decide)
     subst c63
     have H1:((laws_qdPages.f kj39 t343 t346 t312 t315).bind fun t351=>(some t351))=some r:=by rw [if_pos rfl] at H;exact H
     clear H
     have H:=H1
     clear H1
     replace H:=oC H
     obtain ⟨t351,A640,H⟩:=H
     replace H:(some t351)=some r:=H
     have A64:=Am A640
     clear A640
     obtain rfl:=oJ H
     have DN:=BJ.out
     have DO:=BI.out
     have DP:=BE.out
     have DQ:=BL.out
     have Dk:=cz0 Ba.out
     have Dl:=cz1 Ba.out
     have Dm:=bF Ba.out 0
     have Dn:=bF Ba.out 1
     try go_wp2_with (first|((with_reducible refine gC (f:=20) rfl ?_);refine goesL_ (some 62) rfl rfl Try.func20 (by kernel_rfl) rfl #[.agg #[.slice Ao14 t322.length co14,.slice Ao17 t325.length co17],.int .i64 t318] rfl (by (try simp only [lM,lC,lN]);first|done|rfl|(simp only [lD,lT];rfl)) ?_;(with_reducible refine (impl_PagesGet.calls kj39 _ _ t322 _ _ t325 t318 t339 t340 _ ?side1 ?side2 ?side3 ?side4 A43.out).mono ?_);(case side1=>exact cL (rR Bc.out).2.2);(case side2=>exact (rR Bc.out).2.1);(case side3=>exact cL (rR Bd.out).2.2);(case side4=>exact (rR Bd.out).2.1);rintro e w68 ⟨rfl,hb⟩;refine ⟨_,rfl,?_⟩;have n0_:=Am (rB (rL Bg.out) hb);have n1_:=Am (rB (rL Bh.out) hb);have n2_:=Am (rB (rL Bc.out) hb);have n3_:=Am (rB (rL Bd.out) hb);have n4_:=Am (rB (rL Bj.out) hb);have n5_:=Am (rB (rL Bk.out) hb);have n6_:=Am (bX Bb.out hb);have n7_:=Am (bX Ba.out hb);have n8_:=Am (bX Be.out hb);have n9_:=Am (bP (by repeat (first|(with_reducible first|exact HB.out|apply oA|apply pN|apply o1|refine bS ?_ Bn.out|refine bS ?_ Bp.out|refine bS ?_ Bs.out)|exact HB.out)) hb);clear Bg Bh Bc Bd Bj Bk Bb Ba Be HB;revert n0_ n1_ n2_ n3_ n4_ n5_ n6_ n7_ n8_ n9_;intro Bg Bh Bc Bd Bj Bk Bb Ba Be HB;(try clear hb);(try clear hb2);(try clear hk);(try clear hi);have DR:=BD.out;have DS:=BK.out;have Do:=cz0 Bb.out;have Dp:=cz1 Bb.out;have Dq:=bF Bb.out 0;have Dr:=bF Bb.out 1)|((with_reducible refine gC (f:=20) rfl ?_);refine goesL_ (some 68) rfl rfl Try.func20 (by kernel_rfl) rfl #[.agg #[.slice Ao9 t312.length co9,.slice Ao11 t315.length co11],.int .i64 t318] rfl (by (try simp only [lM,lC,lN]);first|done|rfl|(simp only [lD,lT];rfl)) ?_;(with_reducible refine (impl_PagesGet.calls kj39 _ _ t312 _ _ t315 t318 t341 t342 _ ?side1 ?side2 ?side3 ?side4 A44.out).mono ?_);(case side1=>exact cL (rR Bg.out).2.2);(case side2=>exact (rR Bg.out).2.1);(case side3=>exact cL (rR Bh.out).2.2);(case side4=>exact (rR Bh.out).2.1);rintro e w71 ⟨rfl,hb⟩;refine ⟨_,rfl,?_⟩;have n0_:=Am (rB (rL Bg.out) hb);have n1_:=Am (rB (rL Bh.out) hb);have n2_:=Am (rB (rL Bc.out) hb);have n3_:=Am (rB (rL Bd.out) hb);have n4_:=Am (rB (rL Bj.out) hb);have n5_:=Am (rB (rL Bk.out) hb);have n6_:=Am (bX Bb.out hb);have n7_:=Am (bX Ba.out hb);have n8_:=Am (bX Be.out hb);have n9_:=Am (bP (by repeat (first|(with_reducible first|exact HB.out|apply oA|apply pN|apply o1|refine bS ?_ Bn.out|refine bS ?_ Bp.out|refine bS ?_ Bs.out)|exact HB.out)) hb);clear Bg Bh Bc Bd Bj Bk Bb Ba Be HB;revert n0_ n1_ n2_ n3_ n4_ n5_ n6_ n7_ n8_ n9_;intro Bg Bh Bc Bd Bj Bk Bb Ba Be HB;(try clear hb);(try clear hb2);(try clear hk);(try clear hi)))
     have n0_:=Am (rD Bg.out)
     have n1_:=Am (rD Bh.out)
     have n2_:=Am (rD Bc.out)
     have n3_:=Am (rD Bd.out)
     have n4_:=Am (rD Bj.out)
     have n5_:=Am (rD Bk.out)
     have n6_:=Am (bD Bb.out)
     have n7_:=Am (bD Ba.out)
     have n8_:=Am (bD Be.out)
     have n9_:=Am (o1 HB.out)
     clear Bg
     clear Bh
     clear Bc
     clear Bd
     clear Bj
     clear Bk
     clear Bb
     clear Ba
     clear Be
     clear HB
     have Bg:=n0_
     have Bh:=n1_
     have Bc:=n2_
     have Bd:=n3_
     have Bj:=n4_
     have Bk:=n5_
     have Bb:=n6_
     have Ba:=n7_
     have Be:=n8_
     have HB:=n9_
     clear n0_ n1_ n2_ n3_ n4_ n5_ n6_ n7_ n8_ n9_
     have p47:0≤(t319:Int):=oE (by first|(with_reducible assumption)|assumption)
     have q47:t319<(t341.size:Int):=oE (by first|(with_reducible assumption)|assumption)
     have hx47:=bt_at t341 t319
     replace p47:=eq_true p47
     replace q47:=eq_true q47
     refine start_ (n:=14) (S:=fun w'=>w'.cell? ⟨Bl,0,none⟩=some (.slice Ao14 t322.length co14)∧w'.cell? ⟨Bl,1,none⟩=some (.slice Ao17 t325.length co17)) (ds:=[]) z4q0 (by kernel_rfl) rfl rfl ⟨(bC Ba.out 0).trans rfl,(bC Ba.out 1).trans rfl⟩ (fun hHeld=>?_);refine with_st laws_FnPagesSet.tab11 laws_FnPagesSet.bits11 (fun _ _ _ _ _ h=>h) (fun HT_=>?_)
     generalize w71.drew=w72 at Bg Bh Bc Bd Bj Bk Bb Ba Be HB hHeld ⊢
     refine pS 1 73 z4q1 HT_ rfl rfl (by kernel_rfl) (by rfl) (by intro w';go_simp;with_reducible rfl) (by simp only [Act.put,lA,lZ,lS,iw,jw];rfl) ?_
     refine pS 2 74 z4q2 HT_ rfl rfl (by kernel_rfl) (by rfl) (by intro w';go_simp;with_reducible rfl) (by simp only [Act.put,lA,lZ,lS,iw,jw];rfl) ?_
     refine pS 3 75 z4q3 HT_ rfl rfl (by kernel_rfl) (by rfl) (by intro w';go_simp;with_reducible rfl) (by simp only [Act.put,lA,lZ,lS,iw,jw];rfl) ?_
     refine pS 4 76 z4q4 HT_ rfl rfl (by kernel_rfl) (by rfl) (by intro w';go_simp;with_reducible rfl) (by simp only [Act.put,lA,lZ,lS,iw,jw];rfl) ?_
     refine tS 0 72 z4q5 HT_ hHeld rfl rfl (by kernel_rfl) (by rfl) (by rintro w' ⟨s0,s1⟩;go_simp;with_reducible rfl) (by simp only [Act.put,lA,lZ,lS,iw,jw];rfl) ?_
     refine tS 5 77 z4q6 HT_ hHeld rfl rfl (by kernel_rfl) (by rfl) (by rintro w' ⟨s0,s1⟩;go_simp;with_reducible rfl) (by simp only [Act.put,lA,lZ,lS,iw,jw];rfl) ?_
     refine pS 6 78 z4q7 HT_ rfl rfl (by kernel_rfl) (by rfl) (by intro w';go_simp;with_reducible rfl) (by simp only [Act.put,lA,lZ,lS,iw,jw];rfl) ?_
     refine join_ (σ:=Value × Value × Nat) 2 z4q8 (fun s_=>[(79,.tuple #[.agg #[s_.1,s_.2.1],.bool true]),(16,.pointer (some ⟨s_.2.2,0,none⟩)),(71,.tuple #[.agg #[s_.1,s_.2.1],.bool true]),(80,.agg #[s_.1,s_.2.1]),(81,.bool true)]) (fun s_ w'=>(w'.cell? ⟨Bl,0,none⟩=some (.slice Ao14 t322.length co14)∧w'.cell? ⟨Bl,1,none⟩=some (.slice Ao17 t325.length co17))∧(Kd.R Kd.string 9 w' w.heap.size (fun k_=>some k_≠(.slice Ao9 t312.length co9:Value).ownBlock∧some k_≠(.slice Ao14 t322.length co14:Value).ownBlock∧some k_≠(.slice Ao21 t330.length co21:Value).ownBlock) s_.1 t343)∧(Kd.R (Kd.int .i64) 3 w' w.heap.size (fun k_=>some k_≠(.slice Ao11 t315.length co11:Value).ownBlock∧some k_≠(.slice Ao17 t325.length co17:Value).ownBlock∧some k_≠(.slice Ao25 t333.length co25:Value).ownBlock) s_.2.1 t346)∧(Kd.R Kd.string 9 w' w.heap.size (fun k_=>some k_≠(s_.1:Value).ownBlock∧some k_≠(.slice Ao14 t322.length co14:Value).ownBlock∧some k_≠(.slice Ao21 t330.length co21:Value).ownBlock) (.slice Ao9 t312.length co9) t312)∧(Kd.R (Kd.int .i64) 3 w' w.heap.size (fun k_=>some k_≠(s_.2.1:Value).ownBlock∧some k_≠(.slice Ao17 t325.length co17:Value).ownBlock∧some k_≠(.slice Ao25 t333.length co25:Value).ownBlock) (.slice Ao11 t315.length co11) t315)∧(Kd.R Kd.string 9 w' w.heap.size (fun k_=>some k_≠(s_.1:Value).ownBlock∧some k_≠(.slice Ao9 t312.length co9:Value).ownBlock∧some k_≠(.slice Ao21 t330.length co21:Value).ownBlock) (.slice Ao14 t322.length co14) t322)∧(Kd.R (Kd.int .i64) 3 w' w.heap.size (fun k_=>some k_≠(s_.2.1:Value).ownBlock∧some k_≠(.slice Ao11 t315.length co11:Value).ownBlock∧some k_≠(.slice Ao25 t333.length co25:Value).ownBlock) (.slice Ao17 t325.length co17) t325)∧(Kd.R Kd.string 9 w' w.heap.size (fun k_=>some k_≠(s_.1:Value).ownBlock∧some k_≠(.slice Ao9 t312.length co9:Value).ownBlock∧some k_≠(.slice Ao14 t322.length co14:Value).ownBlock) (.slice Ao21 t330.length co21) t330)∧(Kd.R (Kd.int .i64) 3 w' w.heap.size (fun k_=>some k_≠(s_.2.1:Value).ownBlock∧some k_≠(.slice Ao11 t315.length co11:Value).ownBlock∧some k_≠(.slice Ao17 t325.length co17:Value).ownBlock) (.slice Ao25 t333.length co25) t333)∧(w'.heap[Bm]?=some (.cells #[.slice Ao9 t312.length co9,.slice Ao11 t315.length co11] 26 (0,0)))∧(w'.heap[Bl]?=some (.cells #[.slice Ao14 t322.length co14,.slice Ao17 t325.length co17] 26 (0,0)))∧(w'.heap[Bi]?=some (.cells #[.slice Ao21 t330.length co21,.slice Ao25 t333.length co25] 26 (0,0)))∧(w'.heap[s_.2.2]?=some (.cells #[.slice none 0 0,.slice none 0 0] 26 (0,0)))∧(w.heap.size≤s_.2.2)∧(w.heap.size≤s_.2.2)∧(Bm≠s_.2.2)∧(s_.2.2≠Bm)∧(Bl≠s_.2.2)∧(s_.2.2≠Bl)∧(Bi≠s_.2.2)∧(s_.2.2≠Bi)∧(Below w.heap.size w w')) ?_ ?_
     rotate_left
     ·intro hCont
      refine two_ (i:=7) (j:=11) (Ni:=some 79) (Nj:=some 16) z4q9 z4q10 rfl rfl rfl rfl (two_of HT_.out (by kernel_rfl)) (by decide) (by decide) (fun K hK=>?_) (fun K hK=>?_)
      ·skip
       refine goes_ Try.func17 (by kernel_rfl) rfl #[.agg #[.slice Ao14 t322.length co14,.slice Ao17 t325.length co17],.int .i64 t318,.int .i64 t319,.int .i64 (wrap64 (bt t341 t319))] (by rfl) rfl rfl (by (try simp only [lM,lC,lN]);first|done|rfl|(simp only [lD,lT];rfl)) ?_
       with_reducible refine (impl_PagesSet.calls kj39 _ _ t322 _ _ t325 t318 t319 (wrap64 (bt t341 t319)) t343 t346 true _ ?side1 ?side2 ?side3 ?side4 A48.out).mono ?_
       (case side1=>exact cL (rR Bc.out).2.2)
       (case side2=>exact (rR Bc.out).2.1)
       (case side3=>exact cL (rR Bd.out).2.2)
       (case side4=>exact (rR Bd.out).2.1)
       rintro e w73 ⟨v344,v347,rfl,ho0,ho1,hb⟩
       refine ⟨_,rfl,?_⟩
       have n0_:=Am (rX (rL Bg.out) (rZ ho0) hb)
       have n1_:=Am (rX (rL Bh.out) (rZ ho1) hb)
       have n2_:=Am (rX (rL Bc.out) (rZ ho0) hb)
       have n3_:=Am (rX (rL Bd.out) (rZ ho1) hb)
       have n4_:=Am (rX (rL Bj.out) (rZ ho0) hb)
       have n5_:=Am (rX (rL Bk.out) (rZ ho1) hb)
       have n6_:=Am (rW (rQ (rQ (rQ ho0 (rI (rL Bg.out))) (rI (rL Bc.out))) (rI (rL Bj.out))) (bZ (by repeat (first|(with_reducible first|exact HB.out|apply oA|apply pN|apply o1|refine bS ?_ Bn.out|refine bS ?_ Bp.out|refine bS ?_ Bs.out)|exact HB.out))))
       have n7_:=Am (rW (rQ (rQ (rQ ho1 (rI (rL Bh.out))) (rI (rL Bd.out))) (rI (rL Bk.out))) (bZ (by repeat (first|(with_reducible first|exact HB.out|apply oA|apply pN|apply o1|refine bS ?_ Bn.out|refine bS ?_ Bp.out|refine bS ?_ Bs.out)|exact HB.out))))
       have n8_:=Am (bX Bb.out hb)
       have n9_:=Am (bX Ba.out hb)
       have n10_:=Am (bX Be.out hb)
       have n11_:=Am (bP (by repeat (first|(with_reducible first|exact HB.out|apply oA|apply pN|apply o1|refine bS ?_ Bn.out|refine bS ?_ Bp.out|refine bS ?_ Bs.out)|exact HB.out)) hb)
       clear Bg
       clear Bh
       clear Bc
       clear Bd
       clear Bj
       clear Bk
       clear Bb
       clear Ba
       clear Be
       clear HB
       have Bg:=n0_
       have Bh:=n1_
       have Bc:=n2_
       have Bd:=n3_
       have Bj:=n4_
       have Bk:=n5_
       have Bw:=n6_
       have Bx:=n7_
       have Bb:=n8_
       have Ba:=n9_
       have Be:=n10_
       have HB:=n11_
       clear n0_ n1_ n2_ n3_ n4_ n5_ n6_ n7_ n8_ n9_ n10_ n11_
       (try clear hb)
       (try clear hb2)
       (try clear hk)
       (try clear hi)
       (try clear ho0)
       (try clear ho1)
       refine hK.out _ _ ⟨(bC Ba.out 0).trans rfl,(bC Ba.out 1).trans rfl⟩ (fun hHeld=>?_)
       clear hK K
       refine norm_ (by show Act.put _ (some 79) _=_;simp only [Act.put,lA,lZ,lS,iw,jw];rfl) ?_
       refine pS 8 71 z4q11 HT_ rfl rfl (by kernel_rfl) (by rfl) (by intro w';go_simp;with_reducible rfl) (by simp only [Act.put,lA,lZ,lS,iw,jw];rfl) ?_
       refine pS 9 80 z4q12 HT_ rfl rfl (by kernel_rfl) (by rfl) (by intro w';go_simp;with_reducible rfl) (by simp only [Act.put,lA,lZ,lS,iw,jw];rfl) ?_
       refine pS 10 81 z4q13 HT_ rfl rfl (by kernel_rfl) (by rfl) (by intro w';go_simp;with_reducible rfl) (by simp only [Act.put,lA,lZ,lS,iw,jw];rfl) ?_
       refine oS 11 16 z4q8 HT_ rfl rfl (by kernel_rfl) (by decide) (fun K hK=>?_)
       refine box_step ?hg (N:=16) ?hd (cs:=#[.slice none 0 0,.slice none 0 0]) (t:=26) ?hr ?_;(case hd=>rfl);(case hg=>rfl);(case hr=>first|(go_simp;done)|(go_simp;rfl))
       intro Bf hg w74 hbox hb
       have n0_:=Am (rB (rL Bg.out) hb)
       have n1_:=Am (rB (rL Bh.out) hb)
       have n2_:=Am (rB (rL Bc.out) hb)
       have n3_:=Am (rB (rL Bd.out) hb)
       have n4_:=Am (rB (rL Bj.out) hb)
       have n5_:=Am (rB (rL Bk.out) hb)
       have n6_:=Am (rB (rL Bw.out) hb)
       have n7_:=Am (rB (rL Bx.out) hb)
       have n8_:=Am (bX Bb.out hb)
       have n9_:=Am (bX Ba.out hb)
       have n10_:=Am (bX Be.out hb)
       have n11_:=Am (bP (by repeat (first|(with_reducible first|exact HB.out|apply oA|apply pN|apply o1|refine bS ?_ Bn.out|refine bS ?_ Bp.out|refine bS ?_ Bs.out)|exact HB.out)) hb)
       have n12_:=Am (hbox)
       have n13_:=Am ((by rw [hg];exact (bZ (by repeat (first|(with_reducible first|exact HB.out|apply oA|apply pN|apply o1|refine bS ?_ Bn.out|refine bS ?_ Bp.out|refine bS ?_ Bs.out)|exact HB.out))):w.heap.size≤Bf))
       have n14_:=Am ((by rw [hg];exact (bZ (by repeat (first|(with_reducible first|exact HB.out|apply oA|apply pN|apply o1|refine bS ?_ Bn.out|refine bS ?_ Bp.out|refine bS ?_ Bs.out)|exact HB.out))):w.heap.size≤Bf))
       have n15_:=Am ((nL Bb.out hg))
       have n16_:=Am ((nG Bb.out hg))
       have n17_:=Am ((nL Ba.out hg))
       have n18_:=Am ((nG Ba.out hg))
       have n19_:=Am ((nL Be.out hg))
       have n20_:=Am ((nG Be.out hg))
       clear Bg
       clear Bh
       clear Bc
       clear Bd
       clear Bj
       clear Bk
       clear Bw
       clear Bx
       clear Bb
       clear Ba
       clear Be
       clear HB
       have Bg:=n0_
       have Bh:=n1_
       have Bc:=n2_
       have Bd:=n3_
       have Bj:=n4_
       have Bk:=n5_
       have Bw:=n6_
       have Bx:=n7_
       have Bb:=n8_
       have Ba:=n9_
       have Be:=n10_
       have HB:=n11_
       have Bo:=n12_
       have BM:=n13_
       have BC:=n14_
       have BA:=n15_
       have BF:=n16_
       have Bv:=n17_
       have BG:=n18_
       have BB:=n19_
       have BH:=n20_
       clear n0_ n1_ n2_ n3_ n4_ n5_ n6_ n7_ n8_ n9_ n10_ n11_ n12_ n13_ n14_ n15_ n16_ n17_ n18_ n19_ n20_
       clear hb hbox hg
       refine hK.out _ _ ⟨(bC Ba.out 0).trans rfl,(bC Ba.out 1).trans rfl⟩ (fun hHeld=>?_)
       clear hK K
       refine norm_ (by show Act.put _ (some 16) _=_;simp only [Act.put,lA,lZ,lS,iw,jw];rfl) ?_
       exact norm_ (by simp only [putAll,Act.put,lA,lZ,lS]) (hCont (v344,v347,Bf) _ ⟨hHeld,(by (with_reducible repeat (first|apply rA|apply rN|apply rD));exact rM Bw.out (fun _ hk=>⟨hk.1.1.2,⟨hk.1.2,hk.2⟩⟩)),(by (with_reducible repeat (first|apply rA|apply rN|apply rD));exact rM Bx.out (fun _ hk=>⟨hk.1.1.2,⟨hk.1.2,hk.2⟩⟩)),(by (with_reducible repeat (first|apply rA|apply rN|apply rD));exact rM Bg.out (fun _ hk=>⟨hk.2,⟨hk.1.1,hk.1.2⟩⟩)),(by (with_reducible repeat (first|apply rA|apply rN|apply rD));exact rM Bh.out (fun _ hk=>⟨hk.2,⟨hk.1.1,hk.1.2⟩⟩)),(by (with_reducible repeat (first|apply rA|apply rN|apply rD));exact rM Bc.out (fun _ hk=>⟨hk.2,⟨hk.1.1,hk.1.2⟩⟩)),(by (with_reducible repeat (first|apply rA|apply rN|apply rD));exact rM Bd.out (fun _ hk=>⟨hk.2,⟨hk.1.1,hk.1.2⟩⟩)),(by (with_reducible repeat (first|apply rA|apply rN|apply rD));exact rM Bj.out (fun _ hk=>⟨hk.2,⟨hk.1.1,hk.1.2⟩⟩)),(by (with_reducible repeat (first|apply rA|apply rN|apply rD));exact rM Bk.out (fun _ hk=>⟨hk.2,⟨hk.1.1,hk.1.2⟩⟩)),(bL Bb.out),(bL Ba.out),(bL Be.out),(bL Bo.out),BM.out,BC.out,BA.out,BF.out,Bv.out,BG.out,BB.out,BH.out,(by repeat (first|(with_reducible first|exact HB.out|apply oA|apply pN|apply o1|refine bS ?_ Bn.out|refine bS ?_ Bp.out|refine bS ?_ Bs.out|refine bS ?_ BC.out)|exact HB.out))⟩)
      ·skip
       refine box_step ?hg (N:=16) ?hd (cs:=#[.slice none 0 0,.slice none 0 0]) (t:=26) ?hr ?_;(case hd=>rfl);(case hg=>rfl);(case hr=>first|(go_simp;done)|(go_simp;rfl))
       intro Bf hg w73 hbox hb
       have n0_:=Am (rB (rL Bg.out) hb)
       have n1_:=Am (rB (rL Bh.out) hb)
       have n2_:=Am (rB (rL Bc.out) hb)
       have n3_:=Am (rB (rL Bd.out) hb)
       have n4_:=Am (rB (rL Bj.out) hb)
       have n5_:=Am (rB (rL Bk.out) hb)
       have n6_:=Am (bX Bb.out hb)
       have n7_:=Am (bX Ba.out hb)
       have n8_:=Am (bX Be.out hb)
       have n9_:=Am (bP (by repeat (first|(with_reducible first|exact HB.out|apply oA|apply pN|apply o1|refine bS ?_ Bn.out|refine bS ?_ Bp.out|refine bS ?_ Bs.out)|exact HB.out)) hb)
       have n10_:=Am (hbox)
       have n11_:=Am ((by rw [hg];exact (bZ (by repeat (first|(with_reducible first|exact HB.out|apply oA|apply pN|apply o1|refine bS ?_ Bn.out|refine bS ?_ Bp.out|refine bS ?_ Bs.out)|exact HB.out))):w.heap.size≤Bf))
       have n12_:=Am ((by rw [hg];exact (bZ (by repeat (first|(with_reducible first|exact HB.out|apply oA|apply pN|apply o1|refine bS ?_ Bn.out|refine bS ?_ Bp.out|refine bS ?_ Bs.out)|exact HB.out))):w.heap.size≤Bf))
       have n13_:=Am ((nL Bb.out hg))
       have n14_:=Am ((nG Bb.out hg))
       have n15_:=Am ((nL Ba.out hg))
       have n16_:=Am ((nG Ba.out hg))
       have n17_:=Am ((nL Be.out hg))
       have n18_:=Am ((nG Be.out hg))
       clear Bg
       clear Bh
       clear Bc
       clear Bd
       clear Bj
       clear Bk
       clear Bb
       clear Ba
       clear Be
       clear HB
       have Bg:=n0_
       have Bh:=n1_
       have Bc:=n2_
       have Bd:=n3_
       have Bj:=n4_
       have Bk:=n5_
       have Bb:=n6_
       have Ba:=n7_
       have Be:=n8_
       have HB:=n9_
       have Bo:=n10_
       have BM:=n11_
       have BC:=n12_
       have BA:=n13_
       have BF:=n14_
       have Bv:=n15_
       have BG:=n16_
       have BB:=n17_
       have BH:=n18_
       clear n0_ n1_ n2_ n3_ n4_ n5_ n6_ n7_ n8_ n9_ n10_ n11_ n12_ n13_ n14_ n15_ n16_ n17_ n18_
       clear hb hbox hg
       refine hK.out _ _ ⟨(bC Ba.out 0).trans rfl,(bC Ba.out 1).trans rfl⟩ (fun hHeld=>?_)
       clear hK K
       refine norm_ (by show Act.put _ (some 16) _=_;simp only [Act.put,lA,lZ,lS,iw,jw];rfl) ?_
       refine oS 7 79 z4q14 HT_ rfl rfl (by kernel_rfl) (by decide) (fun K hK=>?_)
       refine goes_ Try.func17 (by kernel_rfl) rfl #[.agg #[.slice Ao14 t322.length co14,.slice Ao17 t325.length co17],.int .i64 t318,.int .i64 t319,.int .i64 (wrap64 (bt t341 t319))] (by rfl) rfl rfl (by (try simp only [lM,lC,lN]);first|done|rfl|(simp only [lD,lT];rfl)) ?_
       with_reducible refine (impl_PagesSet.calls kj39 _ _ t322 _ _ t325 t318 t319 (wrap64 (bt t341 t319)) t343 t346 true _ ?side1 ?side2 ?side3 ?side4 A48.out).mono ?_
       (case side1=>exact cL (rR Bc.out).2.2)
       (case side2=>exact (rR Bc.out).2.1)
       (case side3=>exact cL (rR Bd.out).2.2)
       (case side4=>exact (rR Bd.out).2.1)
       rintro e w74 ⟨v344,v347,rfl,ho0,ho1,hb⟩
       refine ⟨_,rfl,?_⟩
       have n0_:=Am (rX (rL Bg.out) (rZ ho0) hb)
       have n1_:=Am (rX (rL Bh.out) (rZ ho1) hb)
       have n2_:=Am (rX (rL Bc.out) (rZ ho0) hb)
       have n3_:=Am (rX (rL Bd.out) (rZ ho1) hb)
       have n4_:=Am (rX (rL Bj.out) (rZ ho0) hb)
       have n5_:=Am (rX (rL Bk.out) (rZ ho1) hb)
       have n6_:=Am (rW (rQ (rQ (rQ ho0 (rI (rL Bg.out))) (rI (rL Bc.out))) (rI (rL Bj.out))) (bZ (by repeat (first|(with_reducible first|exact HB.out|apply oA|apply pN|apply o1|refine bS ?_ Bn.out|refine bS ?_ Bp.out|refine bS ?_ Bs.out|refine bS ?_ BC.out)|exact HB.out))))
       have n7_:=Am (rW (rQ (rQ (rQ ho1 (rI (rL Bh.out))) (rI (rL Bd.out))) (rI (rL Bk.out))) (bZ (by repeat (first|(with_reducible first|exact HB.out|apply oA|apply pN|apply o1|refine bS ?_ Bn.out|refine bS ?_ Bp.out|refine bS ?_ Bs.out|refine bS ?_ BC.out)|exact HB.out))))
       have n8_:=Am (bX Bb.out hb)
       have n9_:=Am (bX Ba.out hb)
       have n10_:=Am (bX Be.out hb)
       have n11_:=Am (bX Bo.out hb)
       have n12_:=Am (bP (by repeat (first|(with_reducible first|exact HB.out|apply oA|apply pN|apply o1|refine bS ?_ Bn.out|refine bS ?_ Bp.out|refine bS ?_ Bs.out|refine bS ?_ BC.out)|exact HB.out)) hb)
       clear Bg
       clear Bh
       clear Bc
       clear Bd
       clear Bj
       clear Bk
       clear Bb
       clear Ba
       clear Be
       clear Bo
       clear HB
       have Bg:=n0_
       have Bh:=n1_
       have Bc:=n2_
       have Bd:=n3_
       have Bj:=n4_
       have Bk:=n5_
       have Bw:=n6_
       have Bx:=n7_
       have Bb:=n8_
       have Ba:=n9_
       have Be:=n10_
       have Bo:=n11_
       have HB:=n12_
       clear n0_ n1_ n2_ n3_ n4_ n5_ n6_ n7_ n8_ n9_ n10_ n11_ n12_
       (try clear hb)
       (try clear hb2)
       (try clear hk)
       (try clear hi)
       (try clear ho0)
       (try clear ho1)
       refine hK.out _ _ ⟨(bC Ba.out 0).trans rfl,(bC Ba.out 1).trans rfl⟩ (fun hHeld=>?_)
       clear hK K
       refine norm_ (by show Act.put _ (some 79) _=_;simp only [Act.put,lA,lZ,lS,iw,jw];rfl) ?_
       refine pS 8 71 z4q15 HT_ rfl rfl (by kernel_rfl) (by rfl) (by intro w';go_simp;with_reducible rfl) (by simp only [Act.put,lA,lZ,lS,iw,jw];rfl) ?_
       refine pS 9 80 z4q16 HT_ rfl rfl (by kernel_rfl) (by rfl) (by intro w';go_simp;with_reducible rfl) (by simp only [Act.put,lA,lZ,lS,iw,jw];rfl) ?_
       refine pS 10 81 z4q8 HT_ rfl rfl (by kernel_rfl) (by rfl) (by intro w';go_simp;with_reducible rfl) (by simp only [Act.put,lA,lZ,lS,iw,jw];rfl) ?_
       exact norm_ (by simp only [putAll,Act.put,lA,lZ,lS]) (hCont (v344,v347,Bf) _ ⟨hHeld,(by (with_reducible repeat (first|apply rA|apply rN|apply rD));exact rM Bw.out (fun _ hk=>⟨hk.1.1.2,⟨hk.1.2,hk.2⟩⟩)),(by (with_reducible repeat (first|apply rA|apply rN|apply rD));exact rM Bx.out (fun _ hk=>⟨hk.1.1.2,⟨hk.1.2,hk.2⟩⟩)),(by (with_reducible repeat (first|apply rA|apply rN|apply rD));exact rM Bg.out (fun _ hk=>⟨hk.2,⟨hk.1.1,hk.1.2⟩⟩)),(by (with_reducible repeat (first|apply rA|apply rN|apply rD));exact rM Bh.out (fun _ hk=>⟨hk.2,⟨hk.1.1,hk.1.2⟩⟩)),(by (with_reducible repeat (first|apply rA|apply rN|apply rD));exact rM Bc.out (fun _ hk=>⟨hk.2,⟨hk.1.1,hk.1.2⟩⟩)),(by (with_reducible repeat (first|apply rA|apply rN|apply rD));exact rM Bd.out (fun _ hk=>⟨hk.2,⟨hk.1.1,hk.1.2⟩⟩)),(by (with_reducible repeat (first|apply rA|apply rN|apply rD));exact rM Bj.out (fun _ hk=>⟨hk.2,⟨hk.1.1,hk.1.2⟩⟩)),(by (with_reducible repeat (first|apply rA|apply rN|apply rD));exact rM Bk.out (fun _ hk=>⟨hk.2,⟨hk.1.1,hk.1.2⟩⟩)),(bL Bb.out),(bL Ba.out),(bL Be.out),(bL Bo.out),BM.out,BC.out,BA.out,BF.out,Bv.out,BG.out,BB.out,BH.out,(by repeat (first|(with_reducible first|exact HB.out|apply oA|apply pN|apply o1|refine bS ?_ Bn.out|refine bS ?_ Bp.out|refine bS ?_ Bs.out|refine bS ?_ BC.out)|exact HB.out))⟩)
     rintro ⟨v344,v347,Bf⟩ w75 ⟨hS_,h0_,h1_,h2_,h3_,h4_,h5_,h6_,h7_,h8_,h9_,h10_,h11_,h12_,h13_,h14_,h15_,h16_,h17_,h18_,h19_,h20_⟩
     have n0_:Aside0 (Kd.R Kd.string 9 w75 w.heap.size (fun k_=>some k_≠(.slice Ao9 t312.length co9:Value).ownBlock∧some k_≠(.slice Ao14 t322.length co14:Value).ownBlock∧some k_≠(.slice Ao21 t330.length co21:Value).ownBlock) v344 t343):=⟨h0_⟩
     have n1_:Aside0 (Kd.R (Kd.int .i64) 3 w75 w.heap.size (fun k_=>some k_≠(.slice Ao11 t315.length co11:Value).ownBlock∧some k_≠(.slice Ao17 t325.length co17:Value).ownBlock∧some k_≠(.slice Ao25 t333.length co25:Value).ownBlock) v347 t346):=⟨h1_⟩
     have n2_:Aside0 (Kd.R Kd.string 9 w75 w.heap.size (fun k_=>some k_≠(v344:Value).ownBlock∧some k_≠(.slice Ao14 t322.length co14:Value).ownBlock∧some k_≠(.slice Ao21 t330.length co21:Value).ownBlock) (.slice Ao9 t312.length co9) t312):=⟨h2_⟩
     have n3_:Aside0 (Kd.R (Kd.int .i64) 3 w75 w.heap.size (fun k_=>some k_≠(v347:Value).ownBlock∧some k_≠(.slice Ao17 t325.length co17:Value).ownBlock∧some k_≠(.slice Ao25 t333.length co25:Value).ownBlock) (.slice Ao11 t315.length co11) t315):=⟨h3_⟩
     have n4_:Aside0 (Kd.R Kd.string 9 w75 w.heap.size (fun k_=>some k_≠(v344:Value).ownBlock∧some k_≠(.slice Ao9 t312.length co9:Value).ownBlock∧some k_≠(.slice Ao21 t330.length co21:Value).ownBlock) (.slice Ao14 t322.length co14) t322):=⟨h4_⟩
     have n5_:Aside0 (Kd.R (Kd.int .i64) 3 w75 w.heap.size (fun k_=>some k_≠(v347:Value).ownBlock∧some k_≠(.slice Ao11 t315.length co11:Value).ownBlock∧some k_≠(.slice Ao25 t333.length co25:Value).ownBlock) (.slice Ao17 t325.length co17) t325):=⟨h5_⟩
     have n6_:Aside0 (Kd.R Kd.string 9 w75 w.heap.size (fun k_=>some k_≠(v344:Value).ownBlock∧some k_≠(.slice Ao9 t312.length co9:Value).ownBlock∧some k_≠(.slice Ao14 t322.length co14:Value).ownBlock) (.slice Ao21 t330.length co21) t330):=⟨h6_⟩
     have n7_:Aside0 (Kd.R (Kd.int .i64) 3 w75 w.heap.size (fun k_=>some k_≠(v347:Value).ownBlock∧some k_≠(.slice Ao11 t315.length co11:Value).ownBlock∧some k_≠(.slice Ao17 t325.length co17:Value).ownBlock) (.slice Ao25 t333.length co25) t333):=⟨h7_⟩
     have n8_:Aside0 (w75.heap[Bm]?=some (.cells #[.slice Ao9 t312.length co9,.slice Ao11 t315.length co11] 26 (0,0))):=⟨h8_⟩
     have n9_:Aside0 (w75.heap[Bl]?=some (.cells #[.slice Ao14 t322.length co14,.slice Ao17 t325.length co17] 26 (0,0))):=⟨h9_⟩
     have n10_:Aside0 (w75.heap[Bi]?=some (.cells #[.slice Ao21 t330.length co21,.slice Ao25 t333.length co25] 26 (0,0))):=⟨h10_⟩
     have n11_:Aside0 (w75.heap[Bf]?=some (.cells #[.slice none 0 0,.slice none 0 0] 26 (0,0))):=⟨h11_⟩
     have n12_:Aside0 (w.heap.size≤Bf):=⟨h12_⟩
     have n13_:Aside0 (w.heap.size≤Bf):=⟨h13_⟩
     have n14_:Aside0 (Bm≠Bf):=⟨h14_⟩
     have n15_:Aside0 (Bf≠Bm):=⟨h15_⟩
     have n16_:Aside0 (Bl≠Bf):=⟨h16_⟩
     have n17_:Aside0 (Bf≠Bl):=⟨h17_⟩
     have n18_:Aside0 (Bi≠Bf):=⟨h18_⟩
     have n19_:Aside0 (Bf≠Bi):=⟨h19_⟩
     have n20_:Aside0 (Below w.heap.size w w75):=⟨h20_⟩
     clear Bg
     clear Bh
     clear Bc
     clear Bd
     clear Bj
     clear Bk
     clear Bb
     clear Ba
     clear Be
     clear HB
     clear h0_ h1_ h2_ h3_ h4_ h5_ h6_ h7_ h8_ h9_ h10_ h11_ h12_ h13_ h14_ h15_ h16_ h17_ h18_ h19_ h20_
     have Bw:=n0_
     have Bx:=n1_
     have Bg:=n2_
     have Bh:=n3_
     have Bc:=n4_
     have Bd:=n5_
     have Bj:=n6_
     have Bk:=n7_
     have Bb:=n8_
     have Ba:=n9_
     have Be:=n10_
     have Bo:=n11_
     have BM:=n12_
     have BC:=n13_
     have BA:=n14_
     have BF:=n15_
     have Bv:=n16_
     have BG:=n17_
     have BB:=n18_
     have BH:=n19_
     have HB:=n20_
     clear n0_ n1_ n2_ n3_ n4_ n5_ n6_ n7_ n8_ n9_ n10_ n11_ n12_ n13_ n14_ n15_ n16_ n17_ n18_ n19_ n20_
     have hHeld:w75.cell? ⟨Bl,0,none⟩=some (.slice Ao14 t322.length co14)∧w75.cell? ⟨Bl,1,none⟩=some (.slice Ao17 t325.length co17):=hS_
     obtain ⟨Ao76,co76,eo76⟩:=rC Bw.out
     (first|subst eo76|(injection eo76 with f1_ f2_ f3_;have f4_:=f1_.symm;have f5_:=f3_.symm;clear f1_ f2_ f3_;subst f4_;subst f5_))
     obtain ⟨Ao78,co78,eo78⟩:=rC Bx.out
     (first|subst eo78|(injection eo78 with f1_ f2_ f3_;have f4_:=f1_.symm;have f5_:=f3_.symm;clear f1_ f2_ f3_;subst f4_;subst f5_))
     refine norm_ (by simp only [putAll,Act.put,lA,lZ,lS];rfl) ?_
     refine oU 12 none z4q17 HT_ rfl rfl (by kernel_rfl) (by decide) (fun K hK=>?_)
     have hs77:=cz0 Bo.out
     have hfs77:=bF Bo.out 0
     have hns77_0:=BA.out
     have hns77_1:=Bv.out
     have hns77_2:=BB.out
     have hms77_0:=BF.out
     have hms77_1:=BG.out
     have hms77_2:=BH.out
     have hs79:=cz1 Bo.out
     have hfs79:=bF Bo.out 1
     have hns79_0:=BA.out
     have hns79_1:=Bv.out
     have hns79_2:=BB.out
     have hms79_0:=BF.out
     have hms79_1:=BG.out
     have hms79_2:=BH.out
     refine skip_ (w1:=?_) (by rfl) rfl ?_ ?_
     rotate_left;(go_simp;rfl)
     refine hK.out _ _ ⟨((cF (p:=⟨Bf,_,none⟩) Bv.out _).trans (((cF (p:=⟨Bf,_,none⟩) Bv.out _).trans (hHeld.1)))),((cF (p:=⟨Bf,_,none⟩) Bv.out _).trans (((cF (p:=⟨Bf,_,none⟩) Bv.out _).trans (hHeld.2))))⟩ (fun hHeld=>?_)
     clear hK K
     refine pS 13 17 z4q18 HT_ rfl rfl (by kernel_rfl) (by rfl) (by intro w';go_simp;with_reducible rfl) (by simp only [Act.put,lA,lZ,lS,iw,jw];rfl) ?_
     refine done_ (done_of HT_.out (by kernel_rfl)) ?_
     try go_wp2
     have n0_:Aside0 (Kd.R Kd.string 9 ((w75.setCell ⟨Bf,0,none⟩ (.slice Ao76 t343.length co76)).setCell ⟨Bf,1,none⟩ (.slice Ao78 t346.length co78)) w.heap.size (fun k_=>some k_≠(.slice Ao14 t322.length co14:Value).ownBlock∧some k_≠(.slice Ao21 t330.length co21:Value).ownBlock∧some k_≠(.slice Ao76 t343.length co76:Value).ownBlock) (.slice Ao9 t312.length co9) t312):=⟨by (with_reducible repeat (first|apply rA|apply rN|apply rD));exact rM (rF (p:=⟨Bf,1,none⟩) (rF (p:=⟨Bf,0,none⟩) (rT Bg.out Bo.out (by decide)) (fun _ hk=>hk.2) (.slice Ao76 t343.length co76)) (fun _ hk=>hk.2) (.slice Ao78 t346.length co78)) (fun _ hk=>⟨hk.1.2.1,⟨hk.1.2.2,hk.1.1⟩⟩)⟩
     have n1_:Aside0 (Kd.R (Kd.int .i64) 3 ((w75.setCell ⟨Bf,0,none⟩ (.slice Ao76 t343.length co76)).setCell ⟨Bf,1,none⟩ (.slice Ao78 t346.length co78)) w.heap.size (fun k_=>some k_≠(.slice Ao17 t325.length co17:Value).ownBlock∧some k_≠(.slice Ao25 t333.length co25:Value).ownBlock∧some k_≠(.slice Ao78 t346.length co78:Value).ownBlock) (.slice Ao11 t315.length co11) t315):=⟨by (with_reducible repeat (first|apply rA|apply rN|apply rD));exact rM (rF (p:=⟨Bf,1,none⟩) (rF (p:=⟨Bf,0,none⟩) (rT Bh.out Bo.out (by decide)) (fun _ hk=>hk.2) (.slice Ao76 t343.length co76)) (fun _ hk=>hk.2) (.slice Ao78 t346.length co78)) (fun _ hk=>⟨hk.1.2.1,⟨hk.1.2.2,hk.1.1⟩⟩)⟩
     have n2_:Aside0 (Kd.R Kd.string 9 ((w75.setCell ⟨Bf,0,none⟩ (.slice Ao76 t343.length co76)).setCell ⟨Bf,1,none⟩ (.slice Ao78 t346.length co78)) w.heap.size (fun k_=>some k_≠(.slice Ao9 t312.length co9:Value).ownBlock∧some k_≠(.slice Ao21 t330.length co21:Value).ownBlock∧some k_≠(.slice Ao76 t343.length co76:Value).ownBlock) (.slice Ao14 t322.length co14) t322):=⟨by (with_reducible repeat (first|apply rA|apply rN|apply rD));exact rM (rF (p:=⟨Bf,1,none⟩) (rF (p:=⟨Bf,0,none⟩) (rT Bc.out Bo.out (by decide)) (fun _ hk=>hk.2) (.slice Ao76 t343.length co76)) (fun _ hk=>hk.2) (.slice Ao78 t346.length co78)) (fun _ hk=>⟨hk.1.2.1,⟨hk.1.2.2,hk.1.1⟩⟩)⟩
     have n3_:Aside0 (Kd.R (Kd.int .i64) 3 ((w75.setCell ⟨Bf,0,none⟩ (.slice Ao76 t343.length co76)).setCell ⟨Bf,1,none⟩ (.slice Ao78 t346.length co78)) w.heap.size (fun k_=>some k_≠(.slice Ao11 t315.length co11:Value).ownBlock∧some k_≠(.slice Ao25 t333.length co25:Value).ownBlock∧some k_≠(.slice Ao78 t346.length co78:Value).ownBlock) (.slice Ao17 t325.length co17) t325):=⟨by (with_reducible repeat (first|apply rA|apply rN|apply rD));exact rM (rF (p:=⟨Bf,1,none⟩) (rF (p:=⟨Bf,0,none⟩) (rT Bd.out Bo.out (by decide)) (fun _ hk=>hk.2) (.slice Ao76 t343.length co76)) (fun _ hk=>hk.2) (.slice Ao78 t346.length co78)) (fun _ hk=>⟨hk.1.2.1,⟨hk.1.2.2,hk.1.1⟩⟩)⟩
     have n4_:Aside0 (Kd.R Kd.string 9 ((w75.setCell ⟨Bf,0,none⟩ (.slice Ao76 t343.length co76)).setCell ⟨Bf,1,none⟩ (.slice Ao78 t346.length co78)) w.heap.size (fun k_=>some k_≠(.slice Ao9 t312.length co9:Value).ownBlock∧some k_≠(.slice Ao14 t322.length co14:Value).ownBlock∧some k_≠(.slice Ao76 t343.length co76:Value).ownBlock) (.slice Ao21 t330.length co21) t330):=⟨by (with_reducible repeat (first|apply rA|apply rN|apply rD));exact rM (rF (p:=⟨Bf,1,none⟩) (rF (p:=⟨Bf,0,none⟩) (rT Bj.out Bo.out (by decide)) (fun _ hk=>hk.2) (.slice Ao76 t343.length co76)) (fun _ hk=>hk.2) (.slice Ao78 t346.length co78)) (fun _ hk=>⟨hk.1.2.1,⟨hk.1.2.2,hk.1.1⟩⟩)⟩
     have n5_:Aside0 (Kd.R (Kd.int .i64) 3 ((w75.setCell ⟨Bf,0,none⟩ (.slice Ao76 t343.length co76)).setCell ⟨Bf,1,none⟩ (.slice Ao78 t346.length co78)) w.heap.size (fun k_=>some k_≠(.slice Ao11 t315.length co11:Value).ownBlock∧some k_≠(.slice Ao17 t325.length co17:Value).ownBlock∧some k_≠(.slice Ao78 t346.length co78:Value).ownBlock) (.slice Ao25 t333.length co25) t333):=⟨by (with_reducible repeat (first|apply rA|apply rN|apply rD));exact rM (rF (p:=⟨Bf,1,none⟩) (rF (p:=⟨Bf,0,none⟩) (rT Bk.out Bo.out (by decide)) (fun _ hk=>hk.2) (.slice Ao76 t343.length co76)) (fun _ hk=>hk.2) (.slice Ao78 t346.length co78)) (fun _ hk=>⟨hk.1.2.1,⟨hk.1.2.2,hk.1.1⟩⟩)⟩
     have n6_:Aside0 (Kd.R Kd.string 9 ((w75.setCell ⟨Bf,0,none⟩ (.slice Ao76 t343.length co76)).setCell ⟨Bf,1,none⟩ (.slice Ao78 t346.length co78)) w.heap.size (fun k_=>some k_≠(.slice Ao9 t312.length co9:Value).ownBlock∧some k_≠(.slice Ao14 t322.length co14:Value).ownBlock∧some k_≠(.slice Ao21 t330.length co21:Value).ownBlock) (.slice Ao76 t343.length co76) t343):=⟨by (with_reducible repeat (first|apply rA|apply rN|apply rD));exact rM (rF (p:=⟨Bf,1,none⟩) (rF (p:=⟨Bf,0,none⟩) (rT Bw.out Bo.out (by decide)) (fun _ hk=>hk.2) (.slice Ao76 t343.length co76)) (fun _ hk=>hk.2) (.slice Ao78 t346.length co78)) (fun _ hk=>⟨hk.1.1,⟨hk.1.2.1,hk.1.2.2⟩⟩)⟩
     have n7_:Aside0 (Kd.R (Kd.int .i64) 3 ((w75.setCell ⟨Bf,0,none⟩ (.slice Ao76 t343.length co76)).setCell ⟨Bf,1,none⟩ (.slice Ao78 t346.length co78)) w.heap.size (fun k_=>some k_≠(.slice Ao11 t315.length co11:Value).ownBlock∧some k_≠(.slice Ao17 t325.length co17:Value).ownBlock∧some k_≠(.slice Ao25 t333.length co25:Value).ownBlock) (.slice Ao78 t346.length co78) t346):=⟨by (with_reducible repeat (first|apply rA|apply rN|apply rD));exact rM (rF (p:=⟨Bf,1,none⟩) (rF (p:=⟨Bf,0,none⟩) (rT Bx.out Bo.out (by decide)) (fun _ hk=>hk.2) (.slice Ao76 t343.length co76)) (fun _ hk=>hk.2) (.slice Ao78 t346.length co78)) (fun _ hk=>⟨hk.1.1,⟨hk.1.2.1,hk.1.2.2⟩⟩)⟩
     have n8_:Aside0 (((w75.setCell ⟨Bf,0,none⟩ (.slice Ao76 t343.length co76)).setCell ⟨Bf,1,none⟩ (.slice Ao78 t346.length co78)).heap[Bm]?=some (.cells #[.slice Ao9 t312.length co9,.slice Ao11 t315.length co11] 26 (0,0))):=⟨by (with_reducible repeat (first|refine bN ?_ _|refine bD ?_|refine bA ?_ _|refine bE ?_ BA.out _));exact Bb.out⟩
     have n9_:Aside0 (((w75.setCell ⟨Bf,0,none⟩ (.slice Ao76 t343.length co76)).setCell ⟨Bf,1,none⟩ (.slice Ao78 t346.length co78)).heap[Bl]?=some (.cells #[.slice Ao14 t322.length co14,.slice Ao17 t325.length co17] 26 (0,0))):=⟨by (with_reducible repeat (first|refine bN ?_ _|refine bD ?_|refine bA ?_ _|refine bE ?_ Bv.out _));exact Ba.out⟩
     have n10_:Aside0 (((w75.setCell ⟨Bf,0,none⟩ (.slice Ao76 t343.length co76)).setCell ⟨Bf,1,none⟩ (.slice Ao78 t346.length co78)).heap[Bi]?=some (.cells #[.slice Ao21 t330.length co21,.slice Ao25 t333.length co25] 26 (0,0))):=⟨by (with_reducible repeat (first|refine bN ?_ _|refine bD ?_|refine bA ?_ _|refine bE ?_ BB.out _));exact Be.out⟩
     have n11_:Aside0 (((w75.setCell ⟨Bf,0,none⟩ (.slice Ao76 t343.length co76)).setCell ⟨Bf,1,none⟩ (.slice Ao78 t346.length co78)).heap[Bf]?=some (.cells #[.slice Ao76 t343.length co76,.slice Ao78 t346.length co78] 26 (0,0))):=⟨by (with_reducible repeat (first|refine bN ?_ _|refine bD ?_|refine bA ?_ _));refine bT (cs:=#[.slice Ao76 t343.length co76,.slice none 0 0]) ?_ 1 _ rfl;(with_reducible repeat (first|refine bN ?_ _|refine bD ?_|refine bA ?_ _));refine bT (cs:=#[.slice none 0 0,.slice none 0 0]) ?_ 0 _ rfl;(with_reducible repeat (first|refine bN ?_ _|refine bD ?_|refine bA ?_ _));exact Bo.out⟩
     have n12_:Aside0 (Below w.heap.size w ((w75.setCell ⟨Bf,0,none⟩ (.slice Ao76 t343.length co76)).setCell ⟨Bf,1,none⟩ (.slice Ao78 t346.length co78))):=⟨by repeat (first|(with_reducible first|exact HB.out|apply oA|apply pN|apply o1|refine bS ?_ Bn.out|refine bS ?_ Bp.out|refine bS ?_ Bs.out|refine bS ?_ BC.out)|exact HB.out)⟩
     (try clear Bg)
     (try clear Bh)
     (try clear Bc)
     (try clear Bd)
     (try clear Bj)
     (try clear Bk)
     (try clear Bw)
     (try clear Bx)
     (try clear Bb)
     (try clear Ba)
     (try clear Be)
     (try clear Bo)
     (try clear HB)
     generalize ((w75.setCell ⟨Bf,0,none⟩ (.slice Ao76 t343.length co76)).setCell ⟨Bf,1,none⟩ (.slice Ao78 t346.length co78))=w80 at n0_ n1_ n2_ n3_ n4_ n5_ n6_ n7_ n8_ n9_ n10_ n11_ n12_ ⊢
     have Bg:=n0_
     have Bh:=n1_
     have Bc:=n2_
     have Bd:=n3_
     have Bj:=n4_
     have Bk:=n5_
     have Bw:=n6_
     have Bx:=n7_
     have Bb:=n8_
     have Ba:=n9_
     have Be:=n10_
     have Bo:=n11_
     have HB:=n12_
     clear n0_ n1_ n2_ n3_ n4_ n5_ n6_ n7_ n8_ n9_ n10_ n11_ n12_
     have n0_:=Am (rD Bg.out)
     have n1_:=Am (rD Bh.out)
     have n2_:=Am (rD Bc.out)
     have n3_:=Am (rD Bd.out)
     have n4_:=Am (rD Bj.out)
     have n5_:=Am (rD Bk.out)
     have n6_:=Am (rD Bw.out)
     have n7_:=Am (rD Bx.out)
     have n8_:=Am (bD Bb.out)
     have n9_:=Am (bD Ba.out)
     have n10_:=Am (bD Be.out)
     have n11_:=Am (bD Bo.out)
     have n12_:=Am (o1 HB.out)
     clear Bg
     clear Bh
     clear Bc
     clear Bd
     clear Bj
     clear Bk
     clear Bw
     clear Bx
     clear Bb
     clear Ba
     clear Be
     clear Bo
     clear HB
     have Bg:=n0_
     have Bh:=n1_
     have Bc:=n2_
     have Bd:=n3_
     have Bj:=n4_
     have Bk:=n5_
     have Bw:=n6_
     have Bx:=n7_
     have Bb:=n8_
     have Ba:=n9_
     have Be:=n10_
     have Bo:=n11_
     have HB:=n12_
     clear n0_ n1_ n2_ n3_ n4_ n5_ n6_ n7_ n8_ n9_ n10_ n11_ n12_
     have p50:0≤(t319:Int):=oE (by first|(with_reducible assumption)|assumption)
     have q50:t319<(t339.size:Int):=oE (by first|(with_reducible assumption)|assumption)
     have hx50:=bt_at t339 t319
     replace p50:=eq_true p50
     replace q50:=eq_true q50
     refine start_ (n:=35) (S:=fun w'=>w'.cell? ⟨Bf,0,none⟩=some (.slice Ao76 t343.length co76)∧w'.cell? ⟨Bf,1,none⟩=some (.slice Ao78 t346.length co78)∧w'.cell? ⟨Bm,0,none⟩=some (.slice Ao9 t312.length co9)∧w'.cell? ⟨Bm,1,none⟩=some (.slice Ao11 t315.length co11)) (ds:=[]) z4q19 (by kernel_rfl) rfl rfl ⟨(bC Bo.out 0).trans rfl,(bC Bo.out 1).trans rfl,(bC Bb.out 0).trans rfl,(bC Bb.out 1).trans rfl⟩ (fun hHeld=>?_);refine with_st laws_FnPagesSet.tab12 laws_FnPagesSet.bits12 (fun _ _ _ _ _ h=>h) (fun HT_=>?_)
     generalize w80.drew=w81 at Bg Bh Bc Bd Bj Bk Bw Bx Bb Ba Be Bo HB hHeld ⊢
     refine pS 0 82 z4q20 HT_ rfl rfl (by kernel_rfl) (by rfl) (by intro w';go_simp;with_reducible rfl) (by simp only [Act.put,lA,lZ,lS,iw,jw];rfl) ?_
     refine pS 1 83 z4q21 HT_ rfl rfl (by kernel_rfl) (by rfl) (by intro w';go_simp;with_reducible rfl) (by simp only [Act.put,lA,lZ,lS,iw,jw];rfl) ?_
     refine pS 4 86 z4q22 HT_ rfl rfl (by kernel_rfl) (by rfl) (by intro w';go_simp;with_reducible rfl) (by simp only [Act.put,lA,lZ,lS,iw,jw];rfl) ?_
     refine tS 2 84 z4q23 HT_ hHeld rfl rfl (by kernel_rfl) (by rfl) (by rintro w' ⟨s0,s1,s2,s3⟩;go_simp;with_reducible rfl) (by simp only [Act.put,lA,lZ,lS,iw,jw];rfl) ?_
     refine pS 3 85 z4q24 HT_ rfl rfl (by kernel_rfl) (by rfl) (by intro w';go_simp;with_reducible rfl) (by simp only [Act.put,lA,lZ,lS,iw,jw];rfl) ?_
     refine pS 5 87 z4q25 HT_ rfl rfl (by kernel_rfl) (by rfl) (by intro w';go_simp;with_reducible rfl) (by simp only [Act.put,lA,lZ,lS,iw,jw];rfl) ?_
     refine pS 6 88 z4q26 HT_ rfl rfl (by kernel_rfl) (by rfl) (by intro w';go_simp;with_reducible rfl) (by simp only [Act.put,lA,lZ,lS,iw,jw];rfl) ?_
     refine pS 7 89 z4q27 HT_ rfl rfl (by kernel_rfl) (by rfl) (by intro w';go_simp;with_reducible rfl) (by simp only [Act.put,lA,lZ,lS,iw,jw];rfl) ?_
     refine pS 8 90 z4q28 HT_ rfl rfl (by kernel_rfl) (by rfl) (by intro w';go_simp;with_reducible rfl) (by simp only [Act.put,lA,lZ,lS,iw,jw];rfl) ?_
     refine pS 9 91 z4q29 HT_ rfl rfl (by kernel_rfl) (by rfl) (by intro w';go_simp;with_reducible rfl) (by simp only [Act.put,lA,lZ,lS,iw,jw];rfl) ?_
     refine pS 10 92 z4q30 HT_ rfl rfl (by kernel_rfl) (by rfl) (by intro w';go_simp;with_reducible rfl) (by simp only [Act.put,lA,lZ,lS,iw,jw];rfl) ?_
     refine pS 11 93 z4q31 HT_ rfl rfl (by kernel_rfl) (by rfl) (by intro w';go_simp;with_reducible rfl) (by simp only [Act.put,lA,lZ,lS,iw,jw];rfl) ?_
     refine pS 12 94 z4q32 HT_ rfl rfl (by kernel_rfl) (by rfl) (by intro w';go_simp;with_reducible rfl) (by simp only [Act.put,lA,lZ,lS,iw,jw];rfl) ?_
     refine pS 13 95 z4q33 HT_ rfl rfl (by kernel_rfl) (by rfl) (by intro w';go_simp;with_reducible rfl) (by simp only [Act.put,lA,lZ,lS,iw,jw];rfl) ?_
     refine pS 14 96 z4q34 HT_ rfl rfl (by kernel_rfl) (by rfl) (by intro w';go_simp;with_reducible rfl) (by simp only [Act.put,lA,lZ,lS,iw,jw];rfl) ?_
     refine pS 15 97 z4q35 HT_ rfl rfl (by kernel_rfl) (by rfl) (by intro w';go_simp;with_reducible rfl) (by simp only [Act.put,lA,lZ,lS,iw,jw];rfl) ?_
     refine pS 16 98 z4q36 HT_ rfl rfl (by kernel_rfl) (by rfl) (by intro w';go_simp;with_reducible rfl) (by simp only [Act.put,lA,lZ,lS,iw,jw];rfl) ?_
     refine pS 17 99 z4q37 HT_ rfl rfl (by kernel_rfl) (by rfl) (by intro w';go_simp;with_reducible rfl) (by simp only [Act.put,lA,lZ,lS,iw,jw];rfl) ?_
     refine pS 18 100 z4q38 HT_ rfl rfl (by kernel_rfl) (by rfl) (by intro w';go_simp;with_reducible rfl) (by simp only [Act.put,lA,lZ,lS,iw,jw];rfl) ?_
     refine pS 19 101 z4q39 HT_ rfl rfl (by kernel_rfl) (by rfl) (by intro w';go_simp;with_reducible rfl) (by simp only [Act.put,lA,lZ,lS,iw,jw];rfl) ?_
     refine pS 20 102 z4q40 HT_ rfl rfl (by kernel_rfl) (by rfl) (by intro w';go_simp;with_reducible rfl) (by simp only [Act.put,lA,lZ,lS,iw,jw];rfl) ?_
     refine pS 21 103 z4q41 HT_ rfl rfl (by kernel_rfl) (by rfl) (by intro w';go_simp;with_reducible rfl) (by simp only [Act.put,lA,lZ,lS,iw,jw];rfl) ?_
     refine pS 22 104 z4q42 HT_ rfl rfl (by kernel_rfl) (by rfl) (by intro w';go_simp;with_reducible rfl) (by simp only [Act.put,lA,lZ,lS,iw,jw];rfl) ?_
     refine pS 23 105 z4q43 HT_ rfl rfl (by kernel_rfl) (by rfl) (by intro w';go_simp;with_reducible rfl) (by simp only [Act.put,lA,lZ,lS,iw,jw];rfl) ?_
     refine pS 24 106 z4q44 HT_ rfl rfl (by kernel_rfl) (by rfl) (by intro w';go_simp;with_reducible rfl) (by simp only [Act.put,lA,lZ,lS,iw,jw];rfl) ?_
     refine pS 25 107 z4q45 HT_ rfl rfl (by kernel_rfl) (by rfl) (by intro w';go_simp;with_reducible rfl) (by simp only [Act.put,lA,lZ,lS,iw,jw];rfl) ?_
     refine pS 26 108 z4q46 HT_ rfl rfl (by kernel_rfl) (by rfl) (by intro w';go_simp;with_reducible rfl) (by simp only [Act.put,lA,lZ,lS,iw,jw];rfl) ?_
     refine pS 27 109 z4q47 HT_ rfl rfl (by kernel_rfl) (by rfl) (by intro w';go_simp;with_reducible rfl) (by simp only [Act.put,lA,lZ,lS,iw,jw];rfl) ?_
     refine pS 28 110 z4q48 HT_ rfl rfl (by kernel_rfl) (by rfl) (by intro w';go_simp;with_reducible rfl) (by simp only [Act.put,lA,lZ,lS,iw,jw];rfl) ?_
     refine pS 29 111 z4q49 HT_ rfl rfl (by kernel_rfl) (by rfl) (by intro w';go_simp;with_reducible rfl) (by simp only [Act.put,lA,lZ,lS,iw,jw];rfl) ?_
     refine tS 30 112 z4q50 HT_ hHeld rfl rfl (by kernel_rfl) (by rfl) (by rintro w' ⟨s0,s1,s2,s3⟩;go_simp;with_reducible rfl) (by simp only [Act.put,lA,lZ,lS,iw,jw];rfl) ?_
     refine tS 31 113 z4q51 HT_ hHeld rfl rfl (by kernel_rfl) (by rfl) (by rintro w' ⟨s0,s1,s2,s3⟩;go_simp;with_reducible rfl) (by simp only [Act.put,lA,lZ,lS,iw,jw];rfl) ?_
     refine oS 32 114 z4q52 HT_ rfl rfl (by kernel_rfl) (by decide) (fun K hK=>?_)
     refine goes_ Try.func19 (by kernel_rfl) rfl #[.agg #[.slice Ao76 t343.length co76,.slice Ao78 t346.length co78],.agg #[.slice Ao9 t312.length co9,.slice Ao11 t315.length co11]] (by rfl) rfl rfl (by (try simp only [lM,lC,lN]);first|done|rfl|(simp only [lD,lT];rfl)) ?_
     with_reducible refine (laws_qdPages.calls kj39 _ _ t343 _ _ t346 _ _ t312 _ _ t315 t351 _ ?side1 ?side2 ?side3 ?side4 ?side5 ?side6 ?side7 ?side8 A64.out).mono ?_
     (case side1=>exact cL (rR Bw.out).2.2)
     (case side2=>exact (rR Bw.out).2.1)
     (case side3=>exact cL (rR Bx.out).2.2)
     (case side4=>exact (rR Bx.out).2.1)
     (case side5=>exact cL (rR Bg.out).2.2)
     (case side6=>exact (rR Bg.out).2.1)
     (case side7=>exact cL (rR Bh.out).2.2)
     (case side8=>exact (rR Bh.out).2.1)
     rintro e w82 ⟨rfl,hb⟩
     refine ⟨_,rfl,?_⟩
     have n0_:=Am (rB (rL Bg.out) hb)
     have n1_:=Am (rB (rL Bh.out) hb)
     have n2_:=Am (rB (rL Bc.out) hb)
     have n3_:=Am (rB (rL Bd.out) hb)
     have n4_:=Am (rB (rL Bj.out) hb)
     have n5_:=Am (rB (rL Bk.out) hb)
     have n6_:=Am (rB (rL Bw.out) hb)
     have n7_:=Am (rB (rL Bx.out) hb)
     have n8_:=Am (bX Bb.out hb)
     have n9_:=Am (bX Ba.out hb)
     have n10_:=Am (bX Be.out hb)
     have n11_:=Am (bX Bo.out hb)
     have n12_:=Am (bP (by repeat (first|(with_reducible first|exact HB.out|apply oA|apply pN|apply o1|refine bS ?_ Bn.out|refine bS ?_ Bp.out|refine bS ?_ Bs.out|refine bS ?_ BC.out)|exact HB.out)) hb)
     clear Bg
     clear Bh
     clear Bc
     clear Bd
     clear Bj
     clear Bk
     clear Bw
     clear Bx
     clear Bb
     clear Ba
     clear Be
     clear Bo
     clear HB
     have Bg:=n0_
     have Bh:=n1_
     have Bc:=n2_
     have Bd:=n3_
     have Bj:=n4_
     have Bk:=n5_
     have Bw:=n6_
     have Bx:=n7_
     have Bb:=n8_
     have Ba:=n9_
     have Be:=n10_
     have Bo:=n11_
     have HB:=n12_
     clear n0_ n1_ n2_ n3_ n4_ n5_ n6_ n7_ n8_ n9_ n10_ n11_ n12_
     (try clear hb)
     (try clear hb2)
     (try clear hk)
     (try clear hi)
     refine hK.out _ _ ⟨(bC Bo.out 0).trans rfl,(bC Bo.out 1).trans rfl,(bC Bb.out 0).trans rfl,(bC Bb.out 1).trans rfl⟩ (fun hHeld=>?_)
     clear hK K
     refine norm_ (by show Act.put _ (some 114) _=_;simp only [Act.put,lA,lZ,lS,iw,jw];rfl) ?_
     refine pS 33 115 z4q53 HT_ rfl rfl (by kernel_rfl) (by rfl) (by intro w';go_simp;with_reducible rfl) (by simp only [Act.put,lA,lZ,lS,iw,jw];rfl) ?_
     refine pS 34 2 z4q54 HT_ rfl rfl (by kernel_rfl) (by rfl) (by intro w';go_simp;with_reducible rfl) (by simp only [Act.put,lA,lZ,lS,iw,jw];rfl) ?_
     refine done_ (done_of HT_.out (by kernel_rfl)) ?_
     try go_wp2
     go_ret
     exact ⟨by first|rfl|(simp [errW_none,errW_some] <;> rfl)|(simp only [← hji57];first|rfl|(simp [errW_none,errW_some] <;> rfl))|(simp [*,errW_none,errW_some] <;> rfl),by repeat (first|(with_reducible first|exact HB.out|apply oA|apply pN|apply o1|refine bS ?_ Bn.out|refine bS ?_ Bp.out|refine bS ?_ Bs.out|refine bS ?_ BC.out)|exact HB.out)⟩
/-- THE ONE PURE STATEMENT of laws_FnPagesSet: yours. -/
def laws_FnPagesSet.Pure:Prop:=∀ (l0:List Int),l0.length≤maxLen → l0.length * 1≤140737488351232 → (∀ x ∈ l0,(Lit.int .u8 x).wf=true) → ∃ k,laws_FnPagesSet.f k l0=some true
theorem laws_FnPagesSet.walk (P:laws_FnPagesSet.Pure) (a0:Option Addr) (len0 cap0:Nat) (z0:List Int) (w:World) (w0:(a0=none∧len0=0∧cap0=0∧z0=[])∨∃ x,a0=some x∧len0≤cap0∧cap0≤maxLen∧z0.length=cap0∧(∀ i,i<z0.length → w.cell? (x.add i)=some (.int .u8 (z0.getD i 0)))∧∀ n ∈ z0,(Lit.int .u8 n).wf=true) (y0:len0 * 1≤140737488351232) :
  Calls Try.prog 4 #[.slice a0 len0 cap0] w fun e w'=>e=.returned (.bool true)∧Below w.heap.size w w':=by
 obtain ⟨l0,rfl,hr0,hm0,hw0,hc0⟩:=ReadsInt.ofRowC w0
 obtain ⟨k,h⟩:=P l0 hm0 y0 hw0
 refine (laws_FnPagesSet.calls k _ _ l0 true w (Kd.C_of_reads (d:=(0:Int)) (h1:=fun _=>rfl) hr0) hc0 h ⟨rfl⟩).mono ?_
 rintro e w' ⟨rfl,hd⟩
 exact ⟨rfl,hd⟩

end Go.Proofs.Ytpdfkbggaihfpaa.PFnPagesSet
