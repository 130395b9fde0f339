/- Proved here, without a condition beyond those that each theorem states: what the Go functions named below do is what the plain functions of the same names say. Written by xprint.py, a program of this session. -/
import Derived.Test.YtpdfkbggaihfpaaPFnLockWordx0
import Derived.Test.YtpdfkbggaihfpaaPFnLockWordx1
import Derived.Test.YtpdfkbggaihfpaaPFnLockWordx4
namespace Go.Proofs.Ytpdfkbggaihfpaa.PFnLockWord
open Go.RowKit Go.Proofs.YtpdfkbggaihfpaaW.PrintWords Go.Proofs.YtpdfkbggaihfpaaW.PrintLast Go.Proofs.YtpdfkbggaihfpaaW.PrintMore
attribute [local go_sem] max2_int min2_int max_two min_two max_three min_three max_four min_four   -- for this text's walks alone
set_option linter.unusedVariables false
set_option linter.unusedSimpArgs false

attribute [local go_sem ↓] isSome_setCell_
attribute [local go_sem high] eqA57
/-! ### laws_qdLock: function 35 -/
mutual
def laws_qdLock.j0 : Nat → Bool → Int → List (S57) → List Int → Int → List (S57) → List Int → Option (Bool)
|0, _, _, _, _, _, _, _ => none
|k + 1, x27, x138000, x138001, x138002, x139000, x139001, x139002 => if x27 = true then (some false) else (laws_qdLock.l0 k 0 x138000 x138001 x138002 x139000 x139001 x139002)
def laws_qdLock.l0 : Nat → Int → Int → List (S57) → List Int → Int → List (S57) → List Int → Option (Bool)
|0, _, _, _, _, _, _, _ => none
|k + 1, x5, x138000, x138001, x138002, x139000, x139001, x139002 => if x5 < (x138001.length : Int) then (if 0 ≤ x5 then (if x5 < (x139001.length : Int) then (if (!(((rd_T57 x138001 x5).f0) == ((rd_T57 x139001 x5).f0)) || (!(((rd_T57 x138001 x5).f1) == ((rd_T57 x139001 x5).f1)) || (!(((rd_T57 x138001 x5).f2) == ((rd_T57 x139001 x5).f2)) || (!(((rd_T57 x138001 x5).f3) == ((rd_T57 x139001 x5).f3)))))) = true then (some false) else (laws_qdLock.l0 k (wrap64 (x5 + 1)) x138000 x138001 x138002 x139000 x139001 x139002)) else (none)) else (none)) else (some true)
end
def laws_qdLock.f (k : Nat) (a0_0 : Int) (l0_1 : List (S57)) (l0_2 : List Int) (a1_0 : Int) (l1_1 : List (S57)) (l1_2 : List Int) : Option (Bool) := if a0_0 = a1_0 then ((laws_qdInts.f k l0_2 l1_2).bind fun t139 => (if t139 = true then (laws_qdLock.j0 k ((l0_1.length : Int) != (l1_1.length : Int)) a0_0 l0_1 l0_2 a1_0 l1_1 l1_2) else (laws_qdLock.j0 k true a0_0 l0_1 l0_2 a1_0 l1_1 l1_2))) else (laws_qdLock.j0 k true a0_0 l0_1 l0_2 a1_0 l1_1 l1_2)
theorem laws_qdLock.mono_l : ∀ k, (∀ y0 y1 y2 y3 y4 y5 y6, LeO (laws_qdLock.j0 k y0 y1 y2 y3 y4 y5 y6) (laws_qdLock.j0 (k + 1) y0 y1 y2 y3 y4 y5 y6)) ∧ (∀ y0 y1 y2 y3 y4 y5 y6, LeO (laws_qdLock.l0 k y0 y1 y2 y3 y4 y5 y6) (laws_qdLock.l0 (k + 1) y0 y1 y2 y3 y4 y5 y6))
|0 => ⟨fun _ _ _ _ _ _ _ r h => by simp [laws_qdLock.j0] at h, fun _ _ _ _ _ _ _ r h => by simp [laws_qdLock.l0] at h⟩
|k + 1 => by
  obtain ⟨ih0, ih1⟩ := laws_qdLock.mono_l k
  refine ⟨?_, ?_⟩
  ·intro y0 y1 y2 y3 y4 y5 y6
   unfold laws_qdLock.j0
   repeat' first
  |(with_reducible exact ih0 _ _ _ _ _ _ _)
  |(with_reducible exact ih1 _ _ _ _ _ _ _)
  |(with_reducible exact laws_qdInts.mono _ _ _)
  |(with_reducible exact LeO.refl _)
  |(with_reducible exact LeO.none _)
  |(with_reducible refine LeO.ite ?_ ?_)
  |(with_reducible refine LeO.bind ?_ (fun _ => ?_))
  |exact ih0 _ _ _ _ _ _ _
  |exact ih1 _ _ _ _ _ _ _
  |exact laws_qdInts.mono _ _ _
  |exact LeO.none _
  |refine LeO.ite ?_ ?_
  |refine LeO.bind ?_ (fun _ => ?_)
  ·intro y0 y1 y2 y3 y4 y5 y6
   unfold laws_qdLock.l0
   repeat' first
  |(with_reducible exact ih0 _ _ _ _ _ _ _)
  |(with_reducible exact ih1 _ _ _ _ _ _ _)
  |(with_reducible exact laws_qdInts.mono _ _ _)
  |(with_reducible exact LeO.refl _)
  |(with_reducible exact LeO.none _)
  |(with_reducible refine LeO.ite ?_ ?_)
  |(with_reducible refine LeO.bind ?_ (fun _ => ?_))
  |exact ih0 _ _ _ _ _ _ _
  |exact ih1 _ _ _ _ _ _ _
  |exact laws_qdInts.mono _ _ _
  |exact LeO.none _
  |refine LeO.ite ?_ ?_
  |refine LeO.bind ?_ (fun _ => ?_)
theorem laws_qdLock.mono : ∀ a0 a1 a2 a3 a4 a5 k, LeO (laws_qdLock.f k a0 a1 a2 a3 a4 a5) (laws_qdLock.f (k + 1) a0 a1 a2 a3 a4 a5) := by
 intro a0 a1 a2 a3 a4 a5 k
 obtain ⟨ih0, ih1⟩ := laws_qdLock.mono_l k
 unfold laws_qdLock.f
 repeat' first
  |(with_reducible exact ih0 _ _ _ _ _ _ _)
  |(with_reducible exact ih1 _ _ _ _ _ _ _)
  |(with_reducible exact laws_qdInts.mono _ _ _)
  |(with_reducible exact LeO.refl _)
  |(with_reducible exact LeO.none _)
  |(with_reducible refine LeO.ite ?_ ?_)
  |(with_reducible refine LeO.bind ?_ (fun _ => ?_))
  |exact ih0 _ _ _ _ _ _ _
  |exact ih1 _ _ _ _ _ _ _
  |exact laws_qdInts.mono _ _ _
  |exact LeO.none _
  |refine LeO.ite ?_ ?_
  |refine LeO.bind ?_ (fun _ => ?_)
set_option maxHeartbeats 2000000 in
set_option maxRecDepth 100000 in
theorem laws_qdLock.calls (k:Nat) (a0_0:Int) (A0_1:Option Addr) (c0_1:Nat) (l0_1:List (S57)) (A0_2:Option Addr) (c0_2:Nat) (l0_2:List Int) (a1_0:Int) (A1_1:Option Addr) (c1_1:Nat) (l1_1:List (S57)) (A1_2:Option Addr) (c1_2:Nat) (l1_2:List Int) (r:Bool) (w:World) (hr0_1:Kd.C k57 w A0_1 l0_1.length l0_1) (hc0_1:l0_1.length≤c0_1) (hr0_2:Kd.C (Kd.int .i64) w A0_2 l0_2.length l0_2) (hc0_2:l0_2.length≤c0_2) (hr1_1:Kd.C k57 w A1_1 l1_1.length l1_1) (hc1_1:l1_1.length≤c1_1) (hr1_2:Kd.C (Kd.int .i64) w A1_2 l1_2.length l1_2) (hc1_2:l1_2.length≤c1_2) (h:laws_qdLock.f k a0_0 l0_1 l0_2 a1_0 l1_1 l1_2=some r) :
  Calls Try.prog 35 #[.agg #[.int .i64 a0_0,.slice A0_1 l0_1.length c0_1,.slice A0_2 l0_2.length c0_2],.agg #[.int .i64 a1_0,.slice A1_1 l1_1.length c1_1,.slice A1_2 l1_2.length c1_2]] w fun e w'=>e=.returned (.bool r)∧Below w.heap.size w w':=by
 have hu51:=Try.underlying51
 have hu57:=Try.underlying57
 have HR0_1:=Am hr0_1
 have HC0_1:=Am hc0_1
 clear hr0_1 hc0_1
 have HR0_2:=Am hr0_2
 have HC0_2:=Am hc0_2
 clear hr0_2 hc0_2
 have HR1_1:=Am hr1_1
 have HC1_1:=Am hc1_1
 clear hr1_1 hc1_1
 have HR1_2:=Am hr1_2
 have HC1_2:=Am hc1_2
 clear hr1_2 hc1_2
 have HB:=Am (bJ w.heap.size w)
 have H:(if a0_0=a1_0 then ((laws_qdInts.f k l0_2 l1_2).bind fun t139=>(if t139=true then (laws_qdLock.j0 k ((l0_1.length:Int) != (l1_1.length:Int)) a0_0 l0_1 l0_2 a1_0 l1_1 l1_2) else (laws_qdLock.j0 k true a0_0 l0_1 l0_2 a1_0 l1_1 l1_2))) else (laws_qdLock.j0 k true a0_0 l0_1 l0_2 a1_0 l1_1 l1_2))=some r:=h
 clear h
 have HC3:=Am H
 clear H
 go_enter Try.func35,Try.ntmps35
 go_upto_region 1 with (first|((with_reducible refine gD (N:=2) rfl ?_);(try (refine gate_guard (by rfl) ?_;dsimp only));refine bI ?hg (N:=2) ?hd (cs:=#[.int .i64 a0_0,.slice A0_1 l0_1.length c0_1,.slice A0_2 l0_2.length c0_2]) (t:=51) ?hr ?_;(case hd=>rfl);(case hg=>rfl);(case hr=>first|(go_simp;done)|(go_simp;rfl));intro Bb hg w4 hbox hb;have n0_:=Am (bP (by repeat (first|(with_reducible first|exact HB.out|apply oA|apply pN|apply o1)|exact HB.out)) hb);have n1_:=Am (hbox);have n2_:=Am ((by rw [hg];exact (bZ (by repeat (first|(with_reducible first|exact HB.out|apply oA|apply pN|apply o1)|exact HB.out))):w.heap.size≤Bb));have n3_:=Am ((by rw [hg];exact (bZ (by repeat (first|(with_reducible first|exact HB.out|apply oA|apply pN|apply o1)|exact HB.out))):w.heap.size≤Bb));clear HB;revert n0_ n1_ n2_ n3_;intro HB Ba BS Be;clear hb hbox hg)|((with_reducible refine gD (N:=3) rfl ?_);(try (refine gate_guard (by rfl) ?_;dsimp only));refine bI ?hg (N:=3) ?hd (cs:=#[.int .i64 a1_0,.slice A1_1 l1_1.length c1_1,.slice A1_2 l1_2.length c1_2]) (t:=51) ?hr ?_;(case hd=>rfl);(case hg=>rfl);(case hr=>first|(go_simp;done)|(go_simp;rfl));intro Bd hg w5 hbox hb;have n0_:=Am (bX Ba.out hb);have n1_:=Am (bP (by repeat (first|(with_reducible first|exact HB.out|apply oA|apply pN|apply o1|refine bS ?_ Be.out)|exact HB.out)) hb);have n2_:=Am (hbox);have n3_:=Am ((by rw [hg];exact (bZ (by repeat (first|(with_reducible first|exact HB.out|apply oA|apply pN|apply o1|refine bS ?_ Be.out)|exact HB.out))):w.heap.size≤Bd));have n4_:=Am ((by rw [hg];exact (bZ (by repeat (first|(with_reducible first|exact HB.out|apply oA|apply pN|apply o1|refine bS ?_ Be.out)|exact HB.out))):w.heap.size≤Bd));have n5_:=Am ((nL Ba.out hg));have n6_:=Am ((nG Ba.out hg));clear Ba HB;revert n0_ n1_ n2_ n3_ n4_ n5_ n6_;intro Ba HB Bc BT Bh Bf Bg;clear hb hbox hg))
 repeat (go_quiet (first|((with_reducible refine gD (N:=2) rfl ?_);(try (refine gate_guard (by rfl) ?_;dsimp only));refine bI ?hg (N:=2) ?hd (cs:=#[.int .i64 a0_0,.slice A0_1 l0_1.length c0_1,.slice A0_2 l0_2.length c0_2]) (t:=51) ?hr ?_;(case hd=>rfl);(case hg=>rfl);(case hr=>first|(go_simp;done)|(go_simp;rfl));intro Bb hg w4 hbox hb;have n0_:=Am (bP (by repeat (first|(with_reducible first|exact HB.out|apply oA|apply pN|apply o1)|exact HB.out)) hb);have n1_:=Am (hbox);have n2_:=Am ((by rw [hg];exact (bZ (by repeat (first|(with_reducible first|exact HB.out|apply oA|apply pN|apply o1)|exact HB.out))):w.heap.size≤Bb));have n3_:=Am ((by rw [hg];exact (bZ (by repeat (first|(with_reducible first|exact HB.out|apply oA|apply pN|apply o1)|exact HB.out))):w.heap.size≤Bb));clear HB;revert n0_ n1_ n2_ n3_;intro HB Ba BS Be;clear hb hbox hg)|((with_reducible refine gD (N:=3) rfl ?_);(try (refine gate_guard (by rfl) ?_;dsimp only));refine bI ?hg (N:=3) ?hd (cs:=#[.int .i64 a1_0,.slice A1_1 l1_1.length c1_1,.slice A1_2 l1_2.length c1_2]) (t:=51) ?hr ?_;(case hd=>rfl);(case hg=>rfl);(case hr=>first|(go_simp;done)|(go_simp;rfl));intro Bd hg w5 hbox hb;have n0_:=Am (bX Ba.out hb);have n1_:=Am (bP (by repeat (first|(with_reducible first|exact HB.out|apply oA|apply pN|apply o1|refine bS ?_ Be.out)|exact HB.out)) hb);have n2_:=Am (hbox);have n3_:=Am ((by rw [hg];exact (bZ (by repeat (first|(with_reducible first|exact HB.out|apply oA|apply pN|apply o1|refine bS ?_ Be.out)|exact HB.out))):w.heap.size≤Bd));have n4_:=Am ((by rw [hg];exact (bZ (by repeat (first|(with_reducible first|exact HB.out|apply oA|apply pN|apply o1|refine bS ?_ Be.out)|exact HB.out))):w.heap.size≤Bd));have n5_:=Am ((nL Ba.out hg));have n6_:=Am ((nG Ba.out hg));clear Ba HB;revert n0_ n1_ n2_ n3_ n4_ n5_ n6_;intro Ba HB Bc BT Bh Bf Bg;clear hb hbox hg));go_upto_region 1 with (first|((with_reducible refine gD (N:=2) rfl ?_);(try (refine gate_guard (by rfl) ?_;dsimp only));refine bI ?hg (N:=2) ?hd (cs:=#[.int .i64 a0_0,.slice A0_1 l0_1.length c0_1,.slice A0_2 l0_2.length c0_2]) (t:=51) ?hr ?_;(case hd=>rfl);(case hg=>rfl);(case hr=>first|(go_simp;done)|(go_simp;rfl));intro Bb hg w4 hbox hb;have n0_:=Am (bP (by repeat (first|(with_reducible first|exact HB.out|apply oA|apply pN|apply o1)|exact HB.out)) hb);have n1_:=Am (hbox);have n2_:=Am ((by rw [hg];exact (bZ (by repeat (first|(with_reducible first|exact HB.out|apply oA|apply pN|apply o1)|exact HB.out))):w.heap.size≤Bb));have n3_:=Am ((by rw [hg];exact (bZ (by repeat (first|(with_reducible first|exact HB.out|apply oA|apply pN|apply o1)|exact HB.out))):w.heap.size≤Bb));clear HB;revert n0_ n1_ n2_ n3_;intro HB Ba BS Be;clear hb hbox hg)|((with_reducible refine gD (N:=3) rfl ?_);(try (refine gate_guard (by rfl) ?_;dsimp only));refine bI ?hg (N:=3) ?hd (cs:=#[.int .i64 a1_0,.slice A1_1 l1_1.length c1_1,.slice A1_2 l1_2.length c1_2]) (t:=51) ?hr ?_;(case hd=>rfl);(case hg=>rfl);(case hr=>first|(go_simp;done)|(go_simp;rfl));intro Bd hg w5 hbox hb;have n0_:=Am (bX Ba.out hb);have n1_:=Am (bP (by repeat (first|(with_reducible first|exact HB.out|apply oA|apply pN|apply o1|refine bS ?_ Be.out)|exact HB.out)) hb);have n2_:=Am (hbox);have n3_:=Am ((by rw [hg];exact (bZ (by repeat (first|(with_reducible first|exact HB.out|apply oA|apply pN|apply o1|refine bS ?_ Be.out)|exact HB.out))):w.heap.size≤Bd));have n4_:=Am ((by rw [hg];exact (bZ (by repeat (first|(with_reducible first|exact HB.out|apply oA|apply pN|apply o1|refine bS ?_ Be.out)|exact HB.out))):w.heap.size≤Bd));have n5_:=Am ((nL Ba.out hg));have n6_:=Am ((nG Ba.out hg));clear Ba HB;revert n0_ n1_ n2_ n3_ n4_ n5_ n6_;intro Ba HB Bc BT Bh Bf Bg;clear hb hbox hg)))
 (try simp only [Act.put,lA,lZ,lS])
 go_cut [27] (fun v27 wc=>∃ (kq:Nat) (x27_2:Bool),v27=.bool x27_2∧Aside0 (laws_qdLock.j0 kq x27_2 a0_0 l0_1 l0_2 a1_0 l1_1 l1_2=some r)∧Aside0 (kq≤k)∧Aside0 (wc.heap[Bb]?=some (.cells #[.int .i64 a0_0,(.slice A0_1 l0_1.length c0_1),(.slice A0_2 l0_2.length c0_2)] 51 (0,0)))∧Aside0 (wc.heap[Bd]?=some (.cells #[.int .i64 a1_0,(.slice A1_1 l1_1.length c1_1),(.slice A1_2 l1_2.length c1_2)] 51 (0,0)))∧Aside0 (Below w.heap.size w wc))
 case first =>
  have H:=HC3.out
  clear HC3
  by_cases c6:a0_0=a1_0
  rotate_left
  ·rw [if_neg c6] at H
   have c6b0:(a0_0 == a1_0)=false:=beq_eq_false_iff_ne.mpr c6
   have c6b1:(a0_0 != a1_0)=true:=bne_iff_ne.mpr c6
   (first|rw [c6b0]|(simp only [i64_w,i32_w];rw [c6b0])|skip)
   have H':=Am H
   clear H
   have Dr:=Bf.out
   have Ds:=Bg.out
   have BG:=cz0 Ba.out
   have BH:=cz1 Ba.out
   have BI:=cz2 Ba.out
   have BJ:=bF Ba.out 0
   have BK:=bF Ba.out 1
   have BL:=bF Ba.out 2
   have BM:=cz0 Bc.out
   have BN:=cz1 Bc.out
   have BO:=cz2 Bc.out
   have BP:=bF Bc.out 0
   have BQ:=bF Bc.out 1
   have BR:=bF Bc.out 2
   go_wp2
   repeat (go_quiet (fail);try go_wp2)
   go_meet
   case rel=>exact ⟨_,(true),(by first|rfl|(simp;done)|(simp [*];done)),H',⟨by first|omega|exact nR _⟩,⟨by (with_reducible repeat (first|refine bN ?_ _|refine bD ?_|refine bA ?_ _));exact Ba.out⟩,⟨by (with_reducible repeat (first|refine bN ?_ _|refine bD ?_|refine bA ?_ _));exact Bc.out⟩,⟨by repeat (first|(with_reducible first|exact HB.out|apply oA|apply pN|apply o1|refine bS ?_ Be.out|refine bS ?_ Bh.out)|exact HB.out)⟩⟩
  rw [if_pos c6] at H
  have c6b0:(a0_0 == a1_0)=true:=beq_iff_eq.mpr c6
  have c6b1:(a0_0 != a1_0)=false:=bne_eq_false_iff_eq.mpr c6
  clear c6
  (first|rw [c6b0]|(simp only [i64_w,i32_w];rw [c6b0])|skip)
  replace H:=oC H
  obtain ⟨t139,A70,H⟩:=H
  replace H:(if t139=true then (laws_qdLock.j0 k ((l0_1.length:Int) != (l1_1.length:Int)) a0_0 l0_1 l0_2 a1_0 l1_1 l1_2) else (laws_qdLock.j0 k true a0_0 l0_1 l0_2 a1_0 l1_1 l1_2))=some r:=H
  have A7:=Am A70
  clear A70
  by_cases c8:t139=true
  rotate_left
  ·replace c8:=Bool.eq_false_iff.mpr c8
   subst c8
   have H1:(laws_qdLock.j0 k true a0_0 l0_1 l0_2 a1_0 l1_1 l1_2)=some r:=by rw [if_neg (show ¬ (false=true) by decide)] at H;exact H
   clear H
   have H:=H1
   clear H1
   have H':=Am H
   clear H
   have Dp:=Bf.out
   have Dq:=Bg.out
   have Bu:=cz0 Ba.out
   have Bv:=cz1 Ba.out
   have Bw:=cz2 Ba.out
   have Bx:=bF Ba.out 0
   have By:=bF Ba.out 1
   have Bz:=bF Ba.out 2
   have BA:=cz0 Bc.out
   have BB:=cz1 Bc.out
   have BC:=cz2 Bc.out
   have BD:=bF Bc.out 0
   have BE:=bF Bc.out 1
   have BF:=bF Bc.out 2
   go_wp2_with (first|(go_at_call 54;(with_reducible refine (laws_qdInts.calls k _ _ l0_2 _ _ l1_2 false _ ?side1 ?side2 ?side3 ?side4 A7.out).mono ?_);(case side1=>exact cL (cB HR0_2.out HB.out));(case side2=>exact HC0_2.out);(case side3=>exact cL (cB HR1_2.out HB.out));(case side4=>exact HC1_2.out);rintro e w' ⟨rfl,⟨nd,rfl⟩⟩;(try first|exact ⟨rfl,_,World.drewN_drewN _ _ _⟩|exact ⟨rfl,_,Eq.trans (World.drewN_drewN _ _ _) (congrArg (World.drewN _) (Nat.add_assoc _ _ _))⟩)))
   repeat (go_quiet (first|(go_at_call 54;(with_reducible refine (laws_qdInts.calls k _ _ l0_2 _ _ l1_2 false _ ?side1 ?side2 ?side3 ?side4 A7.out).mono ?_);(case side1=>exact cL (cB HR0_2.out HB.out));(case side2=>exact HC0_2.out);(case side3=>exact cL (cB HR1_2.out HB.out));(case side4=>exact HC1_2.out);rintro e w' ⟨rfl,⟨nd,rfl⟩⟩;(try first|exact ⟨rfl,_,World.drewN_drewN _ _ _⟩|exact ⟨rfl,_,Eq.trans (World.drewN_drewN _ _ _) (congrArg (World.drewN _) (Nat.add_assoc _ _ _))⟩)));try go_wp2_with (first|(go_at_call 54;(with_reducible refine (laws_qdInts.calls k _ _ l0_2 _ _ l1_2 false _ ?side1 ?side2 ?side3 ?side4 A7.out).mono ?_);(case side1=>exact cL (cB HR0_2.out HB.out));(case side2=>exact HC0_2.out);(case side3=>exact cL (cB HR1_2.out HB.out));(case side4=>exact HC1_2.out);rintro e w' ⟨rfl,⟨nd,rfl⟩⟩;(try first|exact ⟨rfl,_,World.drewN_drewN _ _ _⟩|exact ⟨rfl,_,Eq.trans (World.drewN_drewN _ _ _) (congrArg (World.drewN _) (Nat.add_assoc _ _ _))⟩))))
   go_meet
   case rel=>exact ⟨_,(true),(by first|rfl|(simp;done)|(simp [*];done)),H',⟨by first|omega|exact nR _⟩,⟨by (with_reducible repeat (first|refine bN ?_ _|refine bD ?_|refine bA ?_ _));exact Ba.out⟩,⟨by (with_reducible repeat (first|refine bN ?_ _|refine bD ?_|refine bA ?_ _));exact Bc.out⟩,⟨by repeat (first|(with_reducible first|exact HB.out|apply oA|apply pN|apply o1|refine bS ?_ Be.out|refine bS ?_ Bh.out)|exact HB.out)⟩⟩
  subst c8
  have H1:(laws_qdLock.j0 k ((l0_1.length:Int) != (l1_1.length:Int)) a0_0 l0_1 l0_2 a1_0 l1_1 l1_2)=some r:=by rw [if_pos rfl] at H;exact H
  clear H
  have H:=H1
  clear H1
  have H':=Am H
  clear H
  have Dz:=Bf.out
  have DA:=Bg.out
  have Bi:=cz0 Ba.out
  have Bj:=cz1 Ba.out
  have Bk:=cz2 Ba.out
  have Bl:=bF Ba.out 0
  have Bm:=bF Ba.out 1
  have Bn:=bF Ba.out 2
  have Bo:=cz0 Bc.out
  have Bp:=cz1 Bc.out
  have Bq:=cz2 Bc.out
  have Br:=bF Bc.out 0
  have Bs:=bF Bc.out 1
  have Bt:=bF Bc.out 2
  go_wp2_with (first|(go_at_call 54;(with_reducible refine (laws_qdInts.calls k _ _ l0_2 _ _ l1_2 true _ ?side1 ?side2 ?side3 ?side4 A7.out).mono ?_);(case side1=>exact cL (cB HR0_2.out HB.out));(case side2=>exact HC0_2.out);(case side3=>exact cL (cB HR1_2.out HB.out));(case side4=>exact HC1_2.out);rintro e w' ⟨rfl,⟨nd,rfl⟩⟩;(try first|exact ⟨rfl,_,World.drewN_drewN _ _ _⟩|exact ⟨rfl,_,Eq.trans (World.drewN_drewN _ _ _) (congrArg (World.drewN _) (Nat.add_assoc _ _ _))⟩)))
  repeat (go_quiet (first|(go_at_call 54;(with_reducible refine (laws_qdInts.calls k _ _ l0_2 _ _ l1_2 true _ ?side1 ?side2 ?side3 ?side4 A7.out).mono ?_);(case side1=>exact cL (cB HR0_2.out HB.out));(case side2=>exact HC0_2.out);(case side3=>exact cL (cB HR1_2.out HB.out));(case side4=>exact HC1_2.out);rintro e w' ⟨rfl,⟨nd,rfl⟩⟩;(try first|exact ⟨rfl,_,World.drewN_drewN _ _ _⟩|exact ⟨rfl,_,Eq.trans (World.drewN_drewN _ _ _) (congrArg (World.drewN _) (Nat.add_assoc _ _ _))⟩)));try go_wp2_with (first|(go_at_call 54;(with_reducible refine (laws_qdInts.calls k _ _ l0_2 _ _ l1_2 true _ ?side1 ?side2 ?side3 ?side4 A7.out).mono ?_);(case side1=>exact cL (cB HR0_2.out HB.out));(case side2=>exact HC0_2.out);(case side3=>exact cL (cB HR1_2.out HB.out));(case side4=>exact HC1_2.out);rintro e w' ⟨rfl,⟨nd,rfl⟩⟩;(try first|exact ⟨rfl,_,World.drewN_drewN _ _ _⟩|exact ⟨rfl,_,Eq.trans (World.drewN_drewN _ _ _) (congrArg (World.drewN _) (Nat.add_assoc _ _ _))⟩))))
  go_meet
  case rel=>exact ⟨_,(((l0_1.length:Int) != (l1_1.length:Int))),(by first|rfl|(simp;done)|(simp [*];done)),H',⟨by first|omega|exact nR _⟩,⟨by (with_reducible repeat (first|refine bN ?_ _|refine bD ?_|refine bA ?_ _));exact Ba.out⟩,⟨by (with_reducible repeat (first|refine bN ?_ _|refine bD ?_|refine bA ?_ _));exact Bc.out⟩,⟨by repeat (first|(with_reducible first|exact HB.out|apply oA|apply pN|apply o1|refine bS ?_ Be.out|refine bS ?_ Bh.out)|exact HB.out)⟩⟩
 case rest =>
  clear HC3
  try clear c1
  try clear p2
  try clear c3
  try clear c6
  try clear c6b0
  try clear c6b1
  try clear c8
  try clear c9
  try clear c12
  try clear c15
  try clear Bi
  try clear Bj
  try clear Bk
  try clear Bo
  try clear Bp
  try clear Bq
  try clear Bu
  try clear Bv
  try clear Bw
  try clear BA
  try clear BB
  try clear BC
  try clear BG
  try clear BH
  try clear BI
  try clear BM
  try clear BN
  try clear BO
  try clear Bl
  try clear Bm
  try clear Bn
  try clear Br
  try clear Bs
  try clear Bt
  try clear Bx
  try clear By
  try clear Bz
  try clear BD
  try clear BE
  try clear BF
  try clear BJ
  try clear BK
  try clear BL
  try clear BP
  try clear BQ
  try clear BR
  obtain ⟨kq,x27_2,rfl,HA,BU,Ba,Bc,HB⟩:=hcut
  cases kq with
 |zero=>exact absurd HA.out (by simp [laws_qdLock.j0])
 |succ kj2 =>
   have H:=HA.out
   clear HA
   simp only [laws_qdLock.j0] at H
   by_cases c18:x27_2=true
   ·subst c18
    have H1:(some false)=some r:=by rw [if_pos rfl] at H;exact H
    clear H
    have H:=H1
    clear H1
    obtain rfl:=oJ H
    go_wp2
    repeat (go_quiet (fail);try go_wp2)
    go_ret
    exact ⟨by first|rfl|(simp [errW_none,errW_some] <;> rfl)|(simp [*,errW_none,errW_some] <;> rfl),by repeat (first|(with_reducible first|exact HB.out|apply oA|apply pN|apply o1|refine bS ?_ Be.out|refine bS ?_ Bh.out)|exact HB.out)⟩
   replace c18:=Bool.eq_false_iff.mpr c18
   subst c18
   have H1:(laws_qdLock.l0 kj2 0 a0_0 l0_1 l0_2 a1_0 l1_1 l1_2)=some r:=by rw [if_neg (show ¬ (false=true) by decide)] at H;exact H
   clear H
   have H:=H1
   clear H1
   have H':=Am H
   clear H
   go_wp2
   repeat (go_quiet (fail);try go_wp2)
   go_loopg [5] kj2 (fun kq v5 w'=>∃ (x5_2:Int),v5=.int .i64 x5_2∧Aside0 (laws_qdLock.l0 kq x5_2 a0_0 l0_1 l0_2 a1_0 l1_1 l1_2=some r)∧Aside0 (kq≤kj2)∧Aside0 (w'.heap[Bb]?=some (.cells #[.int .i64 a0_0,(.slice A0_1 l0_1.length c0_1),(.slice A0_2 l0_2.length c0_2)] 51 (0,0)))∧Aside0 (w'.heap[Bd]?=some (.cells #[.int .i64 a1_0,(.slice A1_1 l1_1.length c1_1),(.slice A1_2 l1_2.length c1_2)] 51 (0,0)))∧Aside0 (Below w.heap.size w w'))
   case atStart=>exact ⟨(0),(by first|rfl|(simp;done)|(simp [*];done)),H',⟨nR _⟩,⟨by (with_reducible repeat (first|refine bN ?_ _|refine bD ?_|refine bA ?_ _));exact Ba.out⟩,⟨by (with_reducible repeat (first|refine bN ?_ _|refine bD ?_|refine bA ?_ _));exact Bc.out⟩,⟨by repeat (first|(with_reducible first|exact HB.out|apply oA|apply pN|apply o1|refine bS ?_ Be.out|refine bS ?_ Bh.out)|exact HB.out)⟩⟩
   case round =>
    clear H'
    try clear c1
    try clear p2
    try clear c3
    try clear c6
    try clear c6b0
    try clear c6b1
    try clear c8
    try clear c9
    try clear c12
    try clear c15
    try clear c18
    try clear Bi
    try clear Bj
    try clear Bk
    try clear Bo
    try clear Bp
    try clear Bq
    try clear Bu
    try clear Bv
    try clear Bw
    try clear BA
    try clear BB
    try clear BC
    try clear BG
    try clear BH
    try clear BI
    try clear BM
    try clear BN
    try clear BO
    try clear Bl
    try clear Bm
    try clear Bn
    try clear Br
    try clear Bs
    try clear Bt
    try clear Bx
    try clear By
    try clear Bz
    try clear BD
    try clear BE
    try clear BF
    try clear BJ
    try clear BK
    try clear BL
    try clear BP
    try clear BQ
    try clear BR
    try clear p2
    obtain ⟨x5_2,rfl,HA,HK2,Ba,Bc,HB⟩:=hrel
    cases gk with
   |zero=>exact absurd HA.out (by simp [laws_qdLock.l0])
   |succ k2 =>
     have H:=HA.out
     clear HA
     simp only [laws_qdLock.l0] at H
     by_cases c19:x5_2<(l0_1.length:Int)
     rotate_left
     ·rw [if_neg c19] at H
      have c19b0:decide (x5_2<(l0_1.length:Int))=false:=dF c19
      clear c19
      obtain rfl:=oJ H
      have Dx:=Bf.out
      have Dy:=Bg.out
      have Dj:=cz0 Ba.out
      have Dk:=cz1 Ba.out
      have Dl:=cz2 Ba.out
      have Dm:=bF Ba.out 0
      have Dn:=bF Ba.out 1
      have Do:=bF Ba.out 2
      go_wp2
      repeat (go_quiet (fail);try go_wp2)
      go_ret
      exact ⟨by first|rfl|(simp [errW_none,errW_some] <;> rfl)|(simp [*,errW_none,errW_some] <;> rfl),by repeat (first|(with_reducible first|exact HB.out|apply oA|apply pN|apply o1|refine bS ?_ Be.out|refine bS ?_ Bh.out)|exact HB.out)⟩

     rw [if_pos c19] at H
     have c19b0:decide (x5_2<(l0_1.length:Int))=true:=dT c19
     clear c19
     by_cases c20:0≤x5_2
     rotate_left
     ·rw [if_neg c20] at H
      exact absurd H (by simp)
     rw [if_pos c20] at H
     have c20b0:decide (0≤x5_2)=true:=dT c20
     clear c20
     by_cases c21:x5_2<(l1_1.length:Int)
     rotate_left
     ·rw [if_neg c21] at H
      exact absurd H (by simp)
     rw [if_pos c21] at H
     have c21b0:decide (x5_2<(l1_1.length:Int))=true:=dT c21
     clear c21
     by_cases c22:(!(((rd_T57 l0_1 x5_2).f0) == ((rd_T57 l1_1 x5_2).f0)) || (!(((rd_T57 l0_1 x5_2).f1) == ((rd_T57 l1_1 x5_2).f1)) || (!(((rd_T57 l0_1 x5_2).f2) == ((rd_T57 l1_1 x5_2).f2)) || (!(((rd_T57 l0_1 x5_2).f3) == ((rd_T57 l1_1 x5_2).f3))))))=true
     ·rw [if_pos c22] at H
      have c22b0:(!(((rd_T57 l0_1 x5_2).f0) == ((rd_T57 l1_1 x5_2).f0)) || (!(((rd_T57 l0_1 x5_2).f1) == ((rd_T57 l1_1 x5_2).f1)) || (!(((rd_T57 l0_1 x5_2).f2) == ((rd_T57 l1_1 x5_2).f2)) || (!(((rd_T57 l0_1 x5_2).f3) == ((rd_T57 l1_1 x5_2).f3))))))=true:=c22
      clear c22
      obtain rfl:=oJ H
      have Dt:=Bf.out
      have Du:=Bg.out
      have BV:=cz0 Ba.out
      have BW:=cz1 Ba.out
      have BX:=cz2 Ba.out
      have BY:=bF Ba.out 0
      have BZ:=bF Ba.out 1
      have B0:=bF Ba.out 2
      have p140:0≤(x5_2:Int):=oE (by first|(with_reducible assumption)|assumption)
      have q140:x5_2<(l0_1.length:Int):=oE (by first|(with_reducible assumption)|assumption)
      obtain ⟨ad140,e140,hx140_0,hx140_1,hx140_2,hx140_3⟩:=at_T57 HR0_1.out x5_2 p140 q140
      cases e140
      replace hx140_0:=(bW HB hx140_0:)
      replace hx140_1:=(bW HB hx140_1:)
      replace hx140_2:=(bW HB hx140_2:)
      replace hx140_3:=(bW HB hx140_3:)
      replace p140:=eq_true p140
      replace q140:=eq_true q140
      have B1:=cz0 Bc.out
      have B2:=cz1 Bc.out
      have B3:=cz2 Bc.out
      have B4:=bF Bc.out 0
      have B5:=bF Bc.out 1
      have B6:=bF Bc.out 2
      have p141:0≤(x5_2:Int):=oE (by first|(with_reducible assumption)|assumption)
      have q141:x5_2<(l1_1.length:Int):=oE (by first|(with_reducible assumption)|assumption)
      obtain ⟨ad141,e141,hx141_0,hx141_1,hx141_2,hx141_3⟩:=at_T57 HR1_1.out x5_2 p141 q141
      cases e141
      replace hx141_0:=(bW HB hx141_0:)
      replace hx141_1:=(bW HB hx141_1:)
      replace hx141_2:=(bW HB hx141_2:)
      replace hx141_3:=(bW HB hx141_3:)
      replace p141:=eq_true p141
      replace q141:=eq_true q141
      go_wp2
      repeat (go_quiet (fail);try go_wp2)
      go_ret
      exact ⟨by first|rfl|(simp [errW_none,errW_some] <;> rfl)|(simp [*,errW_none,errW_some] <;> rfl),by repeat (first|(with_reducible first|exact HB.out|apply oA|apply pN|apply o1|refine bS ?_ Be.out|refine bS ?_ Bh.out)|exact HB.out)⟩
     rw [if_neg c22] at H
     have c22b0:(!(((rd_T57 l0_1 x5_2).f0) == ((rd_T57 l1_1 x5_2).f0)) || (!(((rd_T57 l0_1 x5_2).f1) == ((rd_T57 l1_1 x5_2).f1)) || (!(((rd_T57 l0_1 x5_2).f2) == ((rd_T57 l1_1 x5_2).f2)) || (!(((rd_T57 l0_1 x5_2).f3) == ((rd_T57 l1_1 x5_2).f3))))))=false:=by simpa using c22
     clear c22
     have H':=Am H
     clear H
     have Dv:=Bf.out
     have Dw:=Bg.out
     have B7:=cz0 Ba.out
     have B8:=cz1 Ba.out
     have B9:=cz2 Ba.out
     have Da:=bF Ba.out 0
     have Db:=bF Ba.out 1
     have Dc:=bF Ba.out 2
     have p140:0≤(x5_2:Int):=oE (by first|(with_reducible assumption)|assumption)
     have q140:x5_2<(l0_1.length:Int):=oE (by first|(with_reducible assumption)|assumption)
     obtain ⟨ad140,e140,hx140_0,hx140_1,hx140_2,hx140_3⟩:=at_T57 HR0_1.out x5_2 p140 q140
     cases e140
     replace hx140_0:=(bW HB hx140_0:)
     replace hx140_1:=(bW HB hx140_1:)
     replace hx140_2:=(bW HB hx140_2:)
     replace hx140_3:=(bW HB hx140_3:)
     replace p140:=eq_true p140
     replace q140:=eq_true q140
     have Dd:=cz0 Bc.out
     have De:=cz1 Bc.out
     have Df:=cz2 Bc.out
     have Dg:=bF Bc.out 0
     have Dh:=bF Bc.out 1
     have Di:=bF Bc.out 2
     have p141:0≤(x5_2:Int):=oE (by first|(with_reducible assumption)|assumption)
     have q141:x5_2<(l1_1.length:Int):=oE (by first|(with_reducible assumption)|assumption)
     obtain ⟨ad141,e141,hx141_0,hx141_1,hx141_2,hx141_3⟩:=at_T57 HR1_1.out x5_2 p141 q141
     cases e141
     replace hx141_0:=(bW HB hx141_0:)
     replace hx141_1:=(bW HB hx141_1:)
     replace hx141_2:=(bW HB hx141_2:)
     replace hx141_3:=(bW HB hx141_3:)
     replace p141:=eq_true p141
     replace q141:=eq_true q141
     go_wp2
     repeat (go_quiet (fail);try go_wp2)
     go_roundg k2
     case measure=>have:=BU.out;have:=HK2.out;omega
     case rel=>exact ⟨(wrap64 (x5_2 + 1)),(by first|rfl|(simp;done)|(simp [*];done)),H',⟨by have:=BU.out;have:=HK2.out;omega⟩,⟨by (with_reducible repeat (first|refine bN ?_ _|refine bD ?_|refine bA ?_ _));exact Ba.out⟩,⟨by (with_reducible repeat (first|refine bN ?_ _|refine bD ?_|refine bA ?_ _));exact Bc.out⟩,⟨by repeat (first|(with_reducible first|exact HB.out|apply oA|apply pN|apply o1|refine bS ?_ Be.out|refine bS ?_ Bh.out)|exact HB.out)⟩⟩
end Go.Proofs.Ytpdfkbggaihfpaa.PFnLockWord
