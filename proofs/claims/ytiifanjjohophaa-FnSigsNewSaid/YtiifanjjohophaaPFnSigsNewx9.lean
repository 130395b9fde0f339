/- Proved here, without a condition beyond those that each theorem states: what the Go functions named below do is what the plain functions of the same names say. Written by xprint.py, a program of this session. -/
import Derived.Test.YtiifanjjohophaaPFnSigsNewx0
import Derived.Test.YtiifanjjohophaaPFnSigsNewx1
import Derived.Test.YtiifanjjohophaaPFnSigsNewx2
import Derived.Test.YtiifanjjohophaaPFnSigsNewx5
import Derived.Test.YtiifanjjohophaaPFnSigsNewx7
import Derived.Test.YtiifanjjohophaaPFnSigsNewx8
namespace Go.Proofs.Ytiifanjjohophaa.PFnSigsNew
open Go.RowKit Go.Proofs.YtiifanjjohophaaW.PrintWords Go.Proofs.YtiifanjjohophaaW.PrintLast Go.Proofs.YtiifanjjohophaaW.PrintMore
attribute [local go_sem] max2_int min2_int max_two min_two max_three min_three max_four min_four   -- for this text's walks alone
set_option linter.unusedVariables false
set_option linter.unusedSimpArgs false

attribute [local go_sem ↓] isSome_setCell_
/-! ### laws_FnSigsNew: function 3 -/
def laws_FnSigsNew.f (k : Nat) (l0 : List Int) : Option (Bool) := if (l0.length : Int) > 1048576 then (some true) else ((impl_SigsNew.f).bind fun bt185 => ((impl_SigsNext.f k bt185.1 bt185.2.1 bt185.2.2).bind fun bt195 => ((spec_SigsNew.f).bind fun bt208 => ((laws_qdSigs.f k bt185.1 bt185.2.1 bt185.2.2 bt208.1 bt208.2.1 bt208.2.2).bind fun t217 => (if t217 = true then ((impl_SigsOk.f k bt185.1 bt185.2.1 bt185.2.2).bind fun t218 => (if t218 = true then (if bt195.2.2.2.2.2 = true then (some false) else (if bt195.2.2.2.1 = 0 then (some (decide ((l0.length : Int) ≥ 0))) else (some false))) else (some false))) else (some false))))))
theorem laws_FnSigsNew.mono : ∀ a0 k, LeO (laws_FnSigsNew.f k a0) (laws_FnSigsNew.f (k + 1) a0) := by
 intro a0 k
 unfold laws_FnSigsNew.f
 repeat' first
  |(with_reducible exact impl_SigsNext.mono _ _ _ _)
  |(with_reducible exact impl_SigsOk.mono _ _ _ _)
  |(with_reducible exact laws_qdSigs.mono _ _ _ _ _ _ _)
  |(with_reducible exact LeO.refl _)
  |(with_reducible exact LeO.none _)
  |(with_reducible refine LeO.ite ?_ ?_)
  |(with_reducible refine LeO.bind ?_ (fun _ => ?_))
  |exact impl_SigsNext.mono _ _ _ _
  |exact impl_SigsOk.mono _ _ _ _
  |exact laws_qdSigs.mono _ _ _ _ _ _ _
  |exact LeO.none _
  |refine LeO.ite ?_ ?_
  |refine LeO.bind ?_ (fun _ => ?_)
def laws_FnSigsNew.T5 : Bool × List (List Nat × List Nat) := (true, [([], []), ([], []), ([0, 1, 1], [0, 1]), ([2, 2], [2]), ([3], [3]), ([4, 3, 3], [3, 4]), ([3, 5], [3, 5]), ([6, 5], [6]), ([7], [7]), ([8, 7], [7, 8]), ([7, 9], [7, 9]), ([10, 7], [10]), ([11], [11]), ([12, 11], [11, 12]), ([11, 13], [11, 13]), ([14, 11], [14]), ([15], [15]), ([16, 15], [15, 16]), ([17, 15], [15, 17]), ([15, 18], [15, 18]), ([19, 15, 0, 1, 2, 3, 4, 5, 6, 7, 8, 9, 10, 11, 12, 13, 14, 15, 16, 17, 18, 19], [19])])
def laws_FnSigsNew.B5 : List Nat := [0, 0, 3, 7, 15, 31, 63, 127, 255, 511, 1023, 2047, 4095, 8191, 16383, 32767, 65535, 131071, 262143, 524287, 1048575]
theorem laws_FnSigsNew.tab5 : rtab .any (opsOf Try.f3 5) = laws_FnSigsNew.T5 := by kernel_rfl
theorem laws_FnSigsNew.bits5 : waitsOk laws_FnSigsNew.T5.2 laws_FnSigsNew.B5 = true := by kernel_rfl
abbrev z3q0 : Array Bool := bQ 21 0
abbrev z3q1 : Array Bool := bQ 21 1
abbrev z3q2 : Array Bool := bQ 21 3
abbrev z3q3 : Array Bool := bQ 21 7
abbrev z3q4 : Array Bool := bQ 21 15
abbrev z3q5 : Array Bool := bQ 21 31
abbrev z3q6 : Array Bool := bQ 21 63
abbrev z3q7 : Array Bool := bQ 21 127
abbrev z3q8 : Array Bool := bQ 21 255
abbrev z3q9 : Array Bool := bQ 21 511
abbrev z3q10 : Array Bool := bQ 21 1023
abbrev z3q11 : Array Bool := bQ 21 2047
abbrev z3q12 : Array Bool := bQ 21 4095
abbrev z3q13 : Array Bool := bQ 21 8191
abbrev z3q14 : Array Bool := bQ 21 16383
abbrev z3q15 : Array Bool := bQ 21 32767
abbrev z3q16 : Array Bool := bQ 21 65535
abbrev z3q17 : Array Bool := bQ 21 131071
abbrev z3q18 : Array Bool := bQ 21 262143
abbrev z3q19 : Array Bool := bQ 21 524287
abbrev z3q20 : Array Bool := bQ 21 1048575
abbrev z3q21 : Array Bool := bQ 21 2097151
set_option maxHeartbeats 2000000 in
set_option maxRecDepth 100000 in
theorem laws_FnSigsNew.calls (k:Nat) (A0:Option Addr) (c0:Nat) (l0:List Int) (r:Bool) (w:World) (hr0:Kd.C (Kd.int .u8) w A0 l0.length l0) (hc0:l0.length≤c0) (h:laws_FnSigsNew.f k l0=some r) (hT_:Aside0 (r=true)) :
  Calls Try.prog 3 #[.slice A0 l0.length c0] w fun e w'=>e=.returned (.bool r)∧Below w.heap.size w w':=by
 have hu26:=Try.underlying26
 have HR0:=Am hr0
 have HC0:=Am hc0
 clear hr0 hc0
 have HB:=Am (Below.refl w.heap.size w)
 have H:(if (l0.length:Int) > 1048576 then (some true) else ((impl_SigsNew.f).bind fun bt185=>((impl_SigsNext.f k bt185.1 bt185.2.1 bt185.2.2).bind fun bt195=>((spec_SigsNew.f).bind fun bt208=>((laws_qdSigs.f k bt185.1 bt185.2.1 bt185.2.2 bt208.1 bt208.2.1 bt208.2.2).bind fun t217=>(if t217=true then ((impl_SigsOk.f k bt185.1 bt185.2.1 bt185.2.2).bind fun t218=>(if t218=true then (if bt195.2.2.2.2.2=true then (some false) else (if bt195.2.2.2.1=0 then (some (decide ((l0.length:Int) ≥ 0))) else (some false))) else (some false))) else (some false)))))))=some r:=h
 clear h
 by_cases c2:(l0.length:Int) > 1048576
 ·rw [if_pos c2] at H
  have c2b0:decide (1048576<(l0.length:Int))=true:=decide_eq_true c2
  have c2b1:decide (1048576<l0.length)=true:=decide_eq_true (by omega)
  clear c2
  obtain rfl:=Option.some.inj H
  go_enter Try.func3,Try.ntmps3
  go_wp2
  go_ret
  exact ⟨by first|rfl|(simp [errW_none,errW_some] <;> rfl)|(simp [*,errW_none,errW_some] <;> rfl),by repeat (first|(with_reducible first|exact HB.out|apply oA|apply pN|apply o1)|exact HB.out)⟩
 rw [if_neg c2] at H
 have c2b0:decide (1048576<(l0.length:Int))=false:=decide_eq_false c2
 have c2b1:decide (1048576<l0.length)=false:=decide_eq_false (by omega)
 clear c2
 replace H:=oC H
 obtain ⟨⟨t185,t188,t191⟩,A30,H⟩:=H
 replace H:((impl_SigsNext.f k t185 t188 t191).bind fun bt195=>((spec_SigsNew.f).bind fun bt208=>((laws_qdSigs.f k t185 t188 t191 bt208.1 bt208.2.1 bt208.2.2).bind fun t217=>(if t217=true then ((impl_SigsOk.f k t185 t188 t191).bind fun t218=>(if t218=true then (if bt195.2.2.2.2.2=true then (some false) else (if bt195.2.2.2.1=0 then (some (decide ((l0.length:Int) ≥ 0))) else (some false))) else (some false))) else (some false)))))=some r:=H
 have A3:=Am A30
 clear A30
 replace H:=oC H
 obtain ⟨⟨t195,t198,t201,t204,t205,t206⟩,A40,H⟩:=H
 replace H:((spec_SigsNew.f).bind fun bt208=>((laws_qdSigs.f k t185 t188 t191 bt208.1 bt208.2.1 bt208.2.2).bind fun t217=>(if t217=true then ((impl_SigsOk.f k t185 t188 t191).bind fun t218=>(if t218=true then (if t206=true then (some false) else (if t204=0 then (some (decide ((l0.length:Int) ≥ 0))) else (some false))) else (some false))) else (some false))))=some r:=H
 have A4:=Am A40
 clear A40
 replace H:=oC H
 obtain ⟨⟨t208,t211,t214⟩,A50,H⟩:=H
 replace H:((laws_qdSigs.f k t185 t188 t191 t208 t211 t214).bind fun t217=>(if t217=true then ((impl_SigsOk.f k t185 t188 t191).bind fun t218=>(if t218=true then (if t206=true then (some false) else (if t204=0 then (some (decide ((l0.length:Int) ≥ 0))) else (some false))) else (some false))) else (some false)))=some r:=H
 have A5:=Am A50
 clear A50
 replace H:=oC H
 obtain ⟨t217,A60,H⟩:=H
 replace H:(if t217=true then ((impl_SigsOk.f k t185 t188 t191).bind fun t218=>(if t218=true then (if t206=true then (some false) else (if t204=0 then (some (decide ((l0.length:Int) ≥ 0))) else (some false))) else (some false))) else (some false))=some r:=H
 have A6:=Am A60
 clear A60
 by_cases c7:t217=true
 rotate_left
 ·replace c7:=Bool.eq_false_iff.mpr c7
  subst c7
  have H1:(some false)=some r:=by rw [if_neg (show ¬ (false=true) by decide)] at H;exact H
  clear H
  have H:=H1
  clear H1
  exact absurd ((Option.some.inj H).trans hT_.out) (by decide)

 subst c7
 have H1:((impl_SigsOk.f k t185 t188 t191).bind fun t218=>(if t218=true then (if t206=true then (some false) else (if t204=0 then (some (decide ((l0.length:Int) ≥ 0))) else (some false))) else (some false)))=some r:=by rw [if_pos rfl] at H;exact H
 clear H
 have H:=H1
 clear H1
 replace H:=oC H
 obtain ⟨t218,A80,H⟩:=H
 replace H:(if t218=true then (if t206=true then (some false) else (if t204=0 then (some (decide ((l0.length:Int) ≥ 0))) else (some false))) else (some false))=some r:=H
 have A8:=Am A80
 clear A80
 by_cases c9:t218=true
 rotate_left
 ·replace c9:=Bool.eq_false_iff.mpr c9
  subst c9
  have H1:(some false)=some r:=by rw [if_neg (show ¬ (false=true) by decide)] at H;exact H
  clear H
  have H:=H1
  clear H1
  exact absurd ((Option.some.inj H).trans hT_.out) (by decide)
 subst c9
 have H1:(if t206=true then (some false) else (if t204=0 then (some (decide ((l0.length:Int) ≥ 0))) else (some false)))=some r:=by rw [if_pos rfl] at H;exact H
 clear H
 have H:=H1
 clear H1
 by_cases c10:t206=true
 ·subst c10
  have H1:(some false)=some r:=by rw [if_pos rfl] at H;exact H
  clear H
  have H:=H1
  clear H1
  exact absurd ((Option.some.inj H).trans hT_.out) (by decide)
 replace c10:=Bool.eq_false_iff.mpr c10
 subst c10
 have H1:(if t204=0 then (some (decide ((l0.length:Int) ≥ 0))) else (some false))=some r:=by rw [if_neg (show ¬ (false=true) by decide)] at H;exact H
 clear H
 have H:=H1
 clear H1
 by_cases c11:t204=0
 rotate_left
 ·rw [if_neg c11] at H
  have c11b0:(t204 == 0)=false:=beq_eq_false_iff_ne.mpr c11
  have c11b1:(t204 != 0)=true:=bne_iff_ne.mpr c11
  exact absurd ((Option.some.inj H).trans hT_.out) (by decide)
 rw [if_pos c11] at H
 have c11b0:(t204 == 0)=true:=beq_iff_eq.mpr c11
 have c11b1:(t204 != 0)=false:=bne_eq_false_iff_eq.mpr c11
 clear c11
 obtain rfl:=Option.some.inj H
 go_enter Try.func3,Try.ntmps3
 try go_wp2_with (first|((with_reducible refine gate_callee (f:=12) rfl ?_);refine goesL_ (some 11) rfl rfl Try.func12 (by kernel_rfl) rfl #[] rfl (by (try simp only [lM,lC,lN]);first|done|rfl|(simp only [lD,lT];rfl)) ?_;(with_reducible refine (impl_SigsNew.calls  t185 t188 t191 _ A3.out).mono ?_);rintro e w12 ⟨v186,v189,v192,rfl,ho0,ho1,ho2,hb⟩;refine ⟨_,rfl,?_⟩;have n0_:=Am (Kd.R_lower ho0 (bZ (by repeat (first|(with_reducible first|exact HB.out|apply oA|apply pN|apply o1)|exact HB.out))));have n1_:=Am (Kd.R_lower ho1 (bZ (by repeat (first|(with_reducible first|exact HB.out|apply oA|apply pN|apply o1)|exact HB.out))));have n2_:=Am (Kd.R_lower ho2 (bZ (by repeat (first|(with_reducible first|exact HB.out|apply oA|apply pN|apply o1)|exact HB.out))));have n3_:=Am (bP (by repeat (first|(with_reducible first|exact HB.out|apply oA|apply pN|apply o1)|exact HB.out)) hb);clear HB;revert n0_ n1_ n2_ n3_;intro Bd Be Bf HB;(try clear hb);(try clear hb2);(try clear hk);(try clear hi);(try clear ho0);(try clear ho1);(try clear ho2))|((with_reducible refine gate_dst (N:=3) rfl ?_);(try (refine gate_guard (by rfl) ?_;dsimp only));refine box_event ?hg (N:=3) ?hd (cs:=#[.slice none 0 0,.slice none 0 0,.slice none 0 0]) (t:=26) ?hr ?_;(case hd=>rfl);(case hg=>rfl);(case hr=>first|(go_simp;done)|(go_simp;rfl));intro Bc hg w13 hbox hb;have n0_:=Am (rB (rL Bd.out) hb);have n1_:=Am (rB (rL Be.out) hb);have n2_:=Am (rB (rL Bf.out) hb);have n3_:=Am (bP (by repeat (first|(with_reducible first|exact HB.out|apply oA|apply pN|apply o1)|exact HB.out)) hb);have n4_:=Am (hbox);have n5_:=Am ((by rw [hg];exact (bZ (by repeat (first|(with_reducible first|exact HB.out|apply oA|apply pN|apply o1)|exact HB.out))):w.heap.size≤Bc));have n6_:=Am ((by rw [hg];exact (bZ (by repeat (first|(with_reducible first|exact HB.out|apply oA|apply pN|apply o1)|exact HB.out))):w.heap.size≤Bc));clear Bd Be Bf HB;revert n0_ n1_ n2_ n3_ n4_ n5_ n6_;intro Bd Be Bf HB Bb BD Bk;clear hb hbox hg;obtain ⟨Ao14,co14,eo14⟩:=Kd.R_slice Bd.out;subst eo14;have Br:w13.cell? ⟨Bc,0,none⟩=some (.slice none 0 0):=(bC Bb.out 0).trans rfl;have Bs:w13.cell? ⟨Bc,1,none⟩=some (.slice none 0 0):=(bC Bb.out 1).trans rfl;have Bt:w13.cell? ⟨Bc,2,none⟩=some (.slice none 0 0):=(bC Bb.out 2).trans rfl;have Bu:=bF Bb.out 0;have Bv:=bF Bb.out 1;have Bw:=bF Bb.out 2;obtain ⟨Ao16,co16,eo16⟩:=Kd.R_slice Be.out;subst eo16;obtain ⟨Ao17,co17,eo17⟩:=Kd.R_slice Bf.out;subst eo17)|((with_reducible refine gate_callee (f:=13) rfl ?_);refine goesL_ (some 14) rfl rfl Try.func13 (by kernel_rfl) rfl #[.agg #[.slice Ao14 t185.length co14,.slice Ao16 t188.length co16,.slice Ao17 t191.length co17]] rfl (by (try simp only [lM,lC,lN]);first|done|rfl|(simp only [lD,lT];rfl)) ?_;(with_reducible refine (impl_SigsNext.calls k _ _ t185 _ _ t188 _ _ t191 t195 t198 t201 t204 t205 false _ ?side1 ?side2 ?side3 ?side4 ?side5 ?side6 A4.out).mono ?_);(case side1=>refine (Kd.R_reads' (e:=4) (base:=w.heap.size) (ok:=fun k_=>some k_≠(.slice Ao16 t188.length co16:Value).ownBlock) (n:=t185.length) (c:=co14) ?_).2.2;exact (by (with_reducible repeat (first|apply rA|apply rN|apply rD));exact (rM (rF (p:=⟨Bc,2,none⟩) (rF (p:=⟨Bc,1,none⟩) (rF (p:=⟨Bc,0,none⟩) (rT Bd.out Bb.out (by decide)) (fun _ hk=>hk.2) (.slice Ao14 t185.length co14)) (fun _ hk=>hk.2) (.slice Ao16 t188.length co16)) (fun _ hk=>hk.2) (.slice Ao17 t191.length co17)) (fun _ h_=>h_.1))));(case side2=>exact (Kd.R_reads' Bd.out).2.1);(case side3=>refine (Kd.R_reads' (e:=4) (base:=w.heap.size) (ok:=fun k_=>some k_≠(.slice Ao14 t185.length co14:Value).ownBlock) (n:=t188.length) (c:=co16) ?_).2.2;exact (by (with_reducible repeat (first|apply rA|apply rN|apply rD));exact (rM (rF (p:=⟨Bc,2,none⟩) (rF (p:=⟨Bc,1,none⟩) (rF (p:=⟨Bc,0,none⟩) (rT Be.out Bb.out (by decide)) (fun _ hk=>hk.2) (.slice Ao14 t185.length co14)) (fun _ hk=>hk.2) (.slice Ao16 t188.length co16)) (fun _ hk=>hk.2) (.slice Ao17 t191.length co17)) (fun _ h_=>h_.1))));(case side4=>exact (Kd.R_reads' Be.out).2.1);(case side5=>refine (Kd.R_reads' (e:=3) (base:=w.heap.size) (ok:=fun k_=>True) (n:=t191.length) (c:=co17) ?_).2.2;exact (by (with_reducible repeat (first|apply rA|apply rN|apply rD));exact (rM (rF (p:=⟨Bc,2,none⟩) (rF (p:=⟨Bc,1,none⟩) (rF (p:=⟨Bc,0,none⟩) (rT Bf.out Bb.out (by decide)) (fun _ hk=>hk.2) (.slice Ao14 t185.length co14)) (fun _ hk=>hk.2) (.slice Ao16 t188.length co16)) (fun _ hk=>hk.2) (.slice Ao17 t191.length co17)) (fun _ h_=>h_.1))));(case side6=>exact (Kd.R_reads' Bf.out).2.1);rintro e w18 ⟨v196,v199,v202,rfl,ho0,ho1,ho2,hb⟩;refine ⟨_,rfl,?_⟩;have n0_:=Am (rM (Kd.R_told (Kd.R_told (Kd.R_old (by (with_reducible repeat (first|apply rA|apply rN|apply rD));exact (rM (rF (p:=⟨Bc,2,none⟩) (rF (p:=⟨Bc,1,none⟩) (rF (p:=⟨Bc,0,none⟩) (rT Bd.out Bb.out (by decide)) (fun _ hk=>hk.2) (.slice Ao14 t185.length co14)) (fun _ hk=>hk.2) (.slice Ao16 t188.length co16)) (fun _ hk=>hk.2) (.slice Ao17 t191.length co17)) (fun _ h_=>h_.1))) hb) (Kd.R_base ho0)) (Kd.R_base ho1)) (fun _ h_=>h_.1));have n1_:=Am (rM (Kd.R_told (Kd.R_told (Kd.R_old (by (with_reducible repeat (first|apply rA|apply rN|apply rD));exact (rM (rF (p:=⟨Bc,2,none⟩) (rF (p:=⟨Bc,1,none⟩) (rF (p:=⟨Bc,0,none⟩) (rT Be.out Bb.out (by decide)) (fun _ hk=>hk.2) (.slice Ao14 t185.length co14)) (fun _ hk=>hk.2) (.slice Ao16 t188.length co16)) (fun _ hk=>hk.2) (.slice Ao17 t191.length co17)) (fun _ h_=>h_.1))) hb) (Kd.R_base ho0)) (Kd.R_base ho1)) (fun _ h_=>h_.1));have n2_:=Am (Kd.R_elder' (by (with_reducible repeat (first|apply rA|apply rN|apply rD));exact (rM (rF (p:=⟨Bc,2,none⟩) (rF (p:=⟨Bc,1,none⟩) (rF (p:=⟨Bc,0,none⟩) (rT Bf.out Bb.out (by decide)) (fun _ hk=>hk.2) (.slice Ao14 t185.length co14)) (fun _ hk=>hk.2) (.slice Ao16 t188.length co16)) (fun _ hk=>hk.2) (.slice Ao17 t191.length co17)) (fun _ h_=>h_.1))) (Kd.R_base ho2) hb);have n3_:=Am (Kd.R_lower (Kd.R_new' (Kd.R_new' ho0 (Kd.R_lt (by (with_reducible repeat (first|apply rA|apply rN|apply rD));exact (rM (rF (p:=⟨Bc,2,none⟩) (rF (p:=⟨Bc,1,none⟩) (rF (p:=⟨Bc,0,none⟩) (rT Bd.out Bb.out (by decide)) (fun _ hk=>hk.2) (.slice Ao14 t185.length co14)) (fun _ hk=>hk.2) (.slice Ao16 t188.length co16)) (fun _ hk=>hk.2) (.slice Ao17 t191.length co17)) (fun _ h_=>h_.1))))) (Kd.R_lt (by (with_reducible repeat (first|apply rA|apply rN|apply rD));exact (rM (rF (p:=⟨Bc,2,none⟩) (rF (p:=⟨Bc,1,none⟩) (rF (p:=⟨Bc,0,none⟩) (rT Be.out Bb.out (by decide)) (fun _ hk=>hk.2) (.slice Ao14 t185.length co14)) (fun _ hk=>hk.2) (.slice Ao16 t188.length co16)) (fun _ hk=>hk.2) (.slice Ao17 t191.length co17)) (fun _ h_=>h_.1))))) (bZ (by repeat (first|(with_reducible first|exact HB.out|apply oA|apply pN|apply o1|refine bS ?_ Bk.out)|exact HB.out))));have n4_:=Am (Kd.R_lower (Kd.R_new' (Kd.R_new' ho1 (Kd.R_lt (by (with_reducible repeat (first|apply rA|apply rN|apply rD));exact (rM (rF (p:=⟨Bc,2,none⟩) (rF (p:=⟨Bc,1,none⟩) (rF (p:=⟨Bc,0,none⟩) (rT Bd.out Bb.out (by decide)) (fun _ hk=>hk.2) (.slice Ao14 t185.length co14)) (fun _ hk=>hk.2) (.slice Ao16 t188.length co16)) (fun _ hk=>hk.2) (.slice Ao17 t191.length co17)) (fun _ h_=>h_.1))))) (Kd.R_lt (by (with_reducible repeat (first|apply rA|apply rN|apply rD));exact (rM (rF (p:=⟨Bc,2,none⟩) (rF (p:=⟨Bc,1,none⟩) (rF (p:=⟨Bc,0,none⟩) (rT Be.out Bb.out (by decide)) (fun _ hk=>hk.2) (.slice Ao14 t185.length co14)) (fun _ hk=>hk.2) (.slice Ao16 t188.length co16)) (fun _ hk=>hk.2) (.slice Ao17 t191.length co17)) (fun _ h_=>h_.1))))) (bZ (by repeat (first|(with_reducible first|exact HB.out|apply oA|apply pN|apply o1|refine bS ?_ Bk.out)|exact HB.out))));have n5_:=Am (Kd.R_lower (Kd.R_new' ho2 (Kd.R_lt (by (with_reducible repeat (first|apply rA|apply rN|apply rD));exact (rM (rF (p:=⟨Bc,2,none⟩) (rF (p:=⟨Bc,1,none⟩) (rF (p:=⟨Bc,0,none⟩) (rT Bf.out Bb.out (by decide)) (fun _ hk=>hk.2) (.slice Ao14 t185.length co14)) (fun _ hk=>hk.2) (.slice Ao16 t188.length co16)) (fun _ hk=>hk.2) (.slice Ao17 t191.length co17)) (fun _ h_=>h_.1))))) (bZ (by repeat (first|(with_reducible first|exact HB.out|apply oA|apply pN|apply o1|refine bS ?_ Bk.out)|exact HB.out))));have n6_:=Am (bB (g:=Bc) (o:=.cells #[.slice Ao14 t185.length co14,.slice Ao16 t188.length co16,.slice Ao17 t191.length co17] 26 (0,0)) (by (with_reducible repeat (first|refine bN ?_ _|refine bD ?_|refine bA ?_ _));refine blk_put (cs:=#[.slice Ao14 t185.length co14,.slice Ao16 t188.length co16,.slice none 0 0]) ?_ 2 _ rfl;(with_reducible repeat (first|refine bN ?_ _|refine bD ?_|refine bA ?_ _));refine blk_put (cs:=#[.slice Ao14 t185.length co14,.slice none 0 0,.slice none 0 0]) ?_ 1 _ rfl;(with_reducible repeat (first|refine bN ?_ _|refine bD ?_|refine bA ?_ _));refine blk_put (cs:=#[.slice none 0 0,.slice none 0 0,.slice none 0 0]) ?_ 0 _ rfl;(with_reducible repeat (first|refine bN ?_ _|refine bD ?_|refine bA ?_ _));exact Bb.out) hb);have n7_:=Am (bP (by repeat (first|(with_reducible first|exact HB.out|apply oA|apply pN|apply o1|refine bS ?_ Bk.out)|exact HB.out)) hb);clear Bd Be Bf Bb HB;revert n0_ n1_ n2_ n3_ n4_ n5_ n6_ n7_;intro Bd Be Bf Bh Bi Bj Bb HB;(try clear hb);(try clear hb2);(try clear hk);(try clear hi);(try clear ho0);(try clear ho1);(try clear ho2))|((with_reducible refine gate_dst (N:=4) rfl ?_);(try (refine gate_guard (by rfl) ?_;dsimp only));refine box_event ?hg (N:=4) ?hd (cs:=#[.slice none 0 0,.slice none 0 0,.slice none 0 0]) (t:=26) ?hr ?_;(case hd=>rfl);(case hg=>rfl);(case hr=>first|(go_simp;done)|(go_simp;rfl));intro Ba hg w19 hbox hb;have n0_:=Am (rB (rL Bd.out) hb);have n1_:=Am (rB (rL Be.out) hb);have n2_:=Am (rB (rL Bf.out) hb);have n3_:=Am (rB (rL Bh.out) hb);have n4_:=Am (rB (rL Bi.out) hb);have n5_:=Am (rB (rL Bj.out) hb);have n6_:=Am (bB (g:=Bc) (o:=.cells #[.slice Ao14 t185.length co14,.slice Ao16 t188.length co16,.slice Ao17 t191.length co17] 26 (0,0)) (bL Bb.out) hb);have n7_:=Am (bP (by repeat (first|(with_reducible first|exact HB.out|apply oA|apply pN|apply o1|refine bS ?_ Bk.out)|exact HB.out)) hb);have n8_:=Am (hbox);have n9_:=Am ((by rw [hg];exact (bZ (by repeat (first|(with_reducible first|exact HB.out|apply oA|apply pN|apply o1|refine bS ?_ Bk.out)|exact HB.out))):w.heap.size≤Ba));have n10_:=Am ((by rw [hg];exact (bZ (by repeat (first|(with_reducible first|exact HB.out|apply oA|apply pN|apply o1|refine bS ?_ Bk.out)|exact HB.out))):w.heap.size≤Ba));have n11_:=Am ((by rw [hg];exact Nat.ne_of_lt (blk_lt (g:=Bc) (o:=.cells #[.slice Ao14 t185.length co14,.slice Ao16 t188.length co16,.slice Ao17 t191.length co17] 26 (0,0)) (bL Bb.out)):Bc≠Ba));have n12_:=Am ((by rw [hg];exact Nat.ne_of_gt (blk_lt (g:=Bc) (o:=.cells #[.slice Ao14 t185.length co14,.slice Ao16 t188.length co16,.slice Ao17 t191.length co17] 26 (0,0)) (bL Bb.out)):Ba≠Bc));clear Bd Be Bf Bh Bi Bj Bb HB;revert n0_ n1_ n2_ n3_ n4_ n5_ n6_ n7_ n8_ n9_ n10_ n11_ n12_;intro Bd Be Bf Bh Bi Bj Bb HB Bg BE Bo Bp Bq;clear hb hbox hg;obtain ⟨Ao20,co20,eo20⟩:=Kd.R_slice Bh.out;subst eo20;have BF:=Bq.out;have BG:=Bp.out;have Bx:w19.cell? ⟨Ba,0,none⟩=some (.slice none 0 0):=(bC Bg.out 0).trans rfl;have By:w19.cell? ⟨Ba,1,none⟩=some (.slice none 0 0):=(bC Bg.out 1).trans rfl;have Bz:w19.cell? ⟨Ba,2,none⟩=some (.slice none 0 0):=(bC Bg.out 2).trans rfl;have BA:=bF Bg.out 0;have BB:=bF Bg.out 1;have BC:=bF Bg.out 2;obtain ⟨Ao23,co23,eo23⟩:=Kd.R_slice Bi.out;subst eo23;obtain ⟨Ao24,co24,eo24⟩:=Kd.R_slice Bj.out;subst eo24))
 have n0_:Aside0 (Kd.R Kd.bool 4 (((w19.setCell ⟨Ba,0,none⟩ (.slice Ao20 t195.length co20)).setCell ⟨Ba,1,none⟩ (.slice Ao23 t198.length co23)).setCell ⟨Ba,2,none⟩ (.slice Ao24 t201.length co24)) w.heap.size (fun k_=>some k_≠(.slice Ao16 t188.length co16:Value).ownBlock∧some k_≠(.slice Ao20 t195.length co20:Value).ownBlock∧some k_≠(.slice Ao23 t198.length co23:Value).ownBlock) (.slice Ao14 t185.length co14) t185):=⟨by (with_reducible repeat (first|apply rA|apply rN|apply rD));exact rM (rF (p:=⟨Ba,2,none⟩) (rF (p:=⟨Ba,1,none⟩) (rF (p:=⟨Ba,0,none⟩) (rT Bd.out Bg.out (by decide)) (fun _ hk=>hk.2) (.slice Ao20 t195.length co20)) (fun _ hk=>hk.2) (.slice Ao23 t198.length co23)) (fun _ hk=>hk.2) (.slice Ao24 t201.length co24)) (fun _ hk=>⟨hk.1.1.1,⟨hk.1.1.2,hk.1.2⟩⟩)⟩
 have n1_:Aside0 (Kd.R Kd.bool 4 (((w19.setCell ⟨Ba,0,none⟩ (.slice Ao20 t195.length co20)).setCell ⟨Ba,1,none⟩ (.slice Ao23 t198.length co23)).setCell ⟨Ba,2,none⟩ (.slice Ao24 t201.length co24)) w.heap.size (fun k_=>some k_≠(.slice Ao14 t185.length co14:Value).ownBlock∧some k_≠(.slice Ao20 t195.length co20:Value).ownBlock∧some k_≠(.slice Ao23 t198.length co23:Value).ownBlock) (.slice Ao16 t188.length co16) t188):=⟨by (with_reducible repeat (first|apply rA|apply rN|apply rD));exact rM (rF (p:=⟨Ba,2,none⟩) (rF (p:=⟨Ba,1,none⟩) (rF (p:=⟨Ba,0,none⟩) (rT Be.out Bg.out (by decide)) (fun _ hk=>hk.2) (.slice Ao20 t195.length co20)) (fun _ hk=>hk.2) (.slice Ao23 t198.length co23)) (fun _ hk=>hk.2) (.slice Ao24 t201.length co24)) (fun _ hk=>⟨hk.1.1.1,⟨hk.1.1.2,hk.1.2⟩⟩)⟩
 have n2_:Aside0 (Kd.R (Kd.int .i64) 3 (((w19.setCell ⟨Ba,0,none⟩ (.slice Ao20 t195.length co20)).setCell ⟨Ba,1,none⟩ (.slice Ao23 t198.length co23)).setCell ⟨Ba,2,none⟩ (.slice Ao24 t201.length co24)) w.heap.size (fun k_=>some k_≠(.slice Ao24 t201.length co24:Value).ownBlock) (.slice Ao17 t191.length co17) t191):=⟨by (with_reducible repeat (first|apply rA|apply rN|apply rD));exact rM (rF (p:=⟨Ba,2,none⟩) (rF (p:=⟨Ba,1,none⟩) (rF (p:=⟨Ba,0,none⟩) (rT Bf.out Bg.out (by decide)) (fun _ hk=>hk.2) (.slice Ao20 t195.length co20)) (fun _ hk=>hk.2) (.slice Ao23 t198.length co23)) (fun _ hk=>hk.2) (.slice Ao24 t201.length co24)) (fun _ hk=>hk.1.2)⟩
 have n3_:Aside0 (Kd.R Kd.bool 4 (((w19.setCell ⟨Ba,0,none⟩ (.slice Ao20 t195.length co20)).setCell ⟨Ba,1,none⟩ (.slice Ao23 t198.length co23)).setCell ⟨Ba,2,none⟩ (.slice Ao24 t201.length co24)) w.heap.size (fun k_=>some k_≠(.slice Ao14 t185.length co14:Value).ownBlock∧some k_≠(.slice Ao16 t188.length co16:Value).ownBlock∧some k_≠(.slice Ao23 t198.length co23:Value).ownBlock) (.slice Ao20 t195.length co20) t195):=⟨by (with_reducible repeat (first|apply rA|apply rN|apply rD));exact rM (rF (p:=⟨Ba,2,none⟩) (rF (p:=⟨Ba,1,none⟩) (rF (p:=⟨Ba,0,none⟩) (rT Bh.out Bg.out (by decide)) (fun _ hk=>hk.2) (.slice Ao20 t195.length co20)) (fun _ hk=>hk.2) (.slice Ao23 t198.length co23)) (fun _ hk=>hk.2) (.slice Ao24 t201.length co24)) (fun _ hk=>⟨hk.1.1.2,⟨hk.1.2,hk.1.1.1⟩⟩)⟩
 have n4_:Aside0 (Kd.R Kd.bool 4 (((w19.setCell ⟨Ba,0,none⟩ (.slice Ao20 t195.length co20)).setCell ⟨Ba,1,none⟩ (.slice Ao23 t198.length co23)).setCell ⟨Ba,2,none⟩ (.slice Ao24 t201.length co24)) w.heap.size (fun k_=>some k_≠(.slice Ao14 t185.length co14:Value).ownBlock∧some k_≠(.slice Ao16 t188.length co16:Value).ownBlock∧some k_≠(.slice Ao20 t195.length co20:Value).ownBlock) (.slice Ao23 t198.length co23) t198):=⟨by (with_reducible repeat (first|apply rA|apply rN|apply rD));exact rM (rF (p:=⟨Ba,2,none⟩) (rF (p:=⟨Ba,1,none⟩) (rF (p:=⟨Ba,0,none⟩) (rT Bi.out Bg.out (by decide)) (fun _ hk=>hk.2) (.slice Ao20 t195.length co20)) (fun _ hk=>hk.2) (.slice Ao23 t198.length co23)) (fun _ hk=>hk.2) (.slice Ao24 t201.length co24)) (fun _ hk=>⟨hk.1.1.2,⟨hk.1.2,hk.1.1.1⟩⟩)⟩
 have n5_:Aside0 (Kd.R (Kd.int .i64) 3 (((w19.setCell ⟨Ba,0,none⟩ (.slice Ao20 t195.length co20)).setCell ⟨Ba,1,none⟩ (.slice Ao23 t198.length co23)).setCell ⟨Ba,2,none⟩ (.slice Ao24 t201.length co24)) w.heap.size (fun k_=>some k_≠(.slice Ao17 t191.length co17:Value).ownBlock) (.slice Ao24 t201.length co24) t201):=⟨by (with_reducible repeat (first|apply rA|apply rN|apply rD));exact rM (rF (p:=⟨Ba,2,none⟩) (rF (p:=⟨Ba,1,none⟩) (rF (p:=⟨Ba,0,none⟩) (rT Bj.out Bg.out (by decide)) (fun _ hk=>hk.2) (.slice Ao20 t195.length co20)) (fun _ hk=>hk.2) (.slice Ao23 t198.length co23)) (fun _ hk=>hk.2) (.slice Ao24 t201.length co24)) (fun _ hk=>hk.1.2)⟩
 have n6_:Aside0 ((((w19.setCell ⟨Ba,0,none⟩ (.slice Ao20 t195.length co20)).setCell ⟨Ba,1,none⟩ (.slice Ao23 t198.length co23)).setCell ⟨Ba,2,none⟩ (.slice Ao24 t201.length co24)).heap[Bc]?=some (.cells #[.slice Ao14 t185.length co14,.slice Ao16 t188.length co16,.slice Ao17 t191.length co17] 26 (0,0))):=⟨by (with_reducible repeat (first|refine bN ?_ _|refine bD ?_|refine bA ?_ _|refine blk_far ?_ Bp.out _));exact Bb.out⟩
 have n7_:Aside0 ((((w19.setCell ⟨Ba,0,none⟩ (.slice Ao20 t195.length co20)).setCell ⟨Ba,1,none⟩ (.slice Ao23 t198.length co23)).setCell ⟨Ba,2,none⟩ (.slice Ao24 t201.length co24)).heap[Ba]?=some (.cells #[.slice Ao20 t195.length co20,.slice Ao23 t198.length co23,.slice Ao24 t201.length co24] 26 (0,0))):=⟨by (with_reducible repeat (first|refine bN ?_ _|refine bD ?_|refine bA ?_ _));refine blk_put (cs:=#[.slice Ao20 t195.length co20,.slice Ao23 t198.length co23,.slice none 0 0]) ?_ 2 _ rfl;(with_reducible repeat (first|refine bN ?_ _|refine bD ?_|refine bA ?_ _));refine blk_put (cs:=#[.slice Ao20 t195.length co20,.slice none 0 0,.slice none 0 0]) ?_ 1 _ rfl;(with_reducible repeat (first|refine bN ?_ _|refine bD ?_|refine bA ?_ _));refine blk_put (cs:=#[.slice none 0 0,.slice none 0 0,.slice none 0 0]) ?_ 0 _ rfl;(with_reducible repeat (first|refine bN ?_ _|refine bD ?_|refine bA ?_ _));exact Bg.out⟩
 have n8_:Aside0 (Below w.heap.size w (((w19.setCell ⟨Ba,0,none⟩ (.slice Ao20 t195.length co20)).setCell ⟨Ba,1,none⟩ (.slice Ao23 t198.length co23)).setCell ⟨Ba,2,none⟩ (.slice Ao24 t201.length co24))):=⟨by repeat (first|(with_reducible first|exact HB.out|apply oA|apply pN|apply o1|refine bS ?_ Bk.out|refine bS ?_ Bo.out)|exact HB.out)⟩
 (try clear Bd)
 (try clear Be)
 (try clear Bf)
 (try clear Bh)
 (try clear Bi)
 (try clear Bj)
 (try clear Bb)
 (try clear Bg)
 (try clear HB)
 generalize (((w19.setCell ⟨Ba,0,none⟩ (.slice Ao20 t195.length co20)).setCell ⟨Ba,1,none⟩ (.slice Ao23 t198.length co23)).setCell ⟨Ba,2,none⟩ (.slice Ao24 t201.length co24))=w25 at n0_ n1_ n2_ n3_ n4_ n5_ n6_ n7_ n8_ ⊢
 have Bd:=n0_
 have Be:=n1_
 have Bf:=n2_
 have Bh:=n3_
 have Bi:=n4_
 have Bj:=n5_
 have Bb:=n6_
 have Bg:=n7_
 have HB:=n8_
 clear n0_ n1_ n2_ n3_ n4_ n5_ n6_ n7_ n8_
 have n0_:=Am (rD Bd.out)
 have n1_:=Am (rD Be.out)
 have n2_:=Am (rD Bf.out)
 have n3_:=Am (rD Bh.out)
 have n4_:=Am (rD Bi.out)
 have n5_:=Am (rD Bj.out)
 have n6_:=Am (bD Bb.out)
 have n7_:=Am (bD Bg.out)
 have n8_:=Am (o1 HB.out)
 clear Bd
 clear Be
 clear Bf
 clear Bh
 clear Bi
 clear Bj
 clear Bb
 clear Bg
 clear HB
 have Bd:=n0_
 have Be:=n1_
 have Bf:=n2_
 have Bh:=n3_
 have Bi:=n4_
 have Bj:=n5_
 have Bb:=n6_
 have Bg:=n7_
 have HB:=n8_
 clear n0_ n1_ n2_ n3_ n4_ n5_ n6_ n7_ n8_
 refine start_ (n:=21) (S:=fun w'=>w'.cell? ⟨Bc,0,none⟩=some (.slice Ao14 t185.length co14)∧w'.cell? ⟨Bc,1,none⟩=some (.slice Ao16 t188.length co16)∧w'.cell? ⟨Bc,2,none⟩=some (.slice Ao17 t191.length co17)) (ds:=[]) z3q0 (by kernel_rfl) rfl rfl ⟨(bC Bb.out 0).trans rfl,(bC Bb.out 1).trans rfl,(bC Bb.out 2).trans rfl⟩ (fun hHeld=>?_);refine with_st laws_FnSigsNew.tab5 laws_FnSigsNew.bits5 (fun _ _ _ _ _ h=>h) (fun HT_=>?_)
 generalize w25.drew=w26 at Bd Be Bf Bh Bi Bj Bb Bg HB hHeld ⊢
 refine tS 0 19 z3q1 HT_ hHeld rfl rfl (by kernel_rfl) (by rfl) (by rintro w' ⟨s0,s1,s2⟩;go_simp;with_reducible rfl) (by simp only [Act.put,lA,lZ,lS,iw,jw];rfl) ?_
 refine oS 1 20 z3q2 HT_ rfl rfl (by kernel_rfl) (by decide) (fun K hK=>?_)
 refine goes_ Try.func15 (by kernel_rfl) rfl #[] (by rfl) rfl rfl (by (try simp only [lM,lC,lN]);first|done|rfl|(simp only [lD,lT];rfl)) ?_
 with_reducible refine (spec_SigsNew.calls  t208 t211 t214 _ A5.out).mono ?_
 rintro e w27 ⟨v209,v212,v215,rfl,ho0,ho1,ho2,hb⟩
 refine ⟨_,rfl,?_⟩
 have n0_:=Am (rM (Kd.R_told (Kd.R_told (Kd.R_old (rL Bd.out) hb) (Kd.R_base ho0)) (Kd.R_base ho1)) (fun _ h_=>h_.1))
 have n1_:=Am (rM (Kd.R_told (Kd.R_told (Kd.R_old (rL Be.out) hb) (Kd.R_base ho0)) (Kd.R_base ho1)) (fun _ h_=>h_.1))
 have n2_:=Am (Kd.R_elder' (rL Bf.out) (Kd.R_base ho2) hb)
 have n3_:=Am (rM (Kd.R_told (Kd.R_told (Kd.R_old (rL Bh.out) hb) (Kd.R_base ho0)) (Kd.R_base ho1)) (fun _ h_=>h_.1))
 have n4_:=Am (rM (Kd.R_told (Kd.R_told (Kd.R_old (rL Bi.out) hb) (Kd.R_base ho0)) (Kd.R_base ho1)) (fun _ h_=>h_.1))
 have n5_:=Am (Kd.R_elder' (rL Bj.out) (Kd.R_base ho2) hb)
 have n6_:=Am (Kd.R_lower (Kd.R_new' (Kd.R_new' (Kd.R_new' (Kd.R_new' ho0 (Kd.R_lt (rL Bd.out))) (Kd.R_lt (rL Be.out))) (Kd.R_lt (rL Bh.out))) (Kd.R_lt (rL Bi.out))) (bZ (by repeat (first|(with_reducible first|exact HB.out|apply oA|apply pN|apply o1|refine bS ?_ Bk.out|refine bS ?_ Bo.out)|exact HB.out))))
 have n7_:=Am (Kd.R_lower (Kd.R_new' (Kd.R_new' (Kd.R_new' (Kd.R_new' ho1 (Kd.R_lt (rL Bd.out))) (Kd.R_lt (rL Be.out))) (Kd.R_lt (rL Bh.out))) (Kd.R_lt (rL Bi.out))) (bZ (by repeat (first|(with_reducible first|exact HB.out|apply oA|apply pN|apply o1|refine bS ?_ Bk.out|refine bS ?_ Bo.out)|exact HB.out))))
 have n8_:=Am (Kd.R_lower (Kd.R_new' (Kd.R_new' ho2 (Kd.R_lt (rL Bf.out))) (Kd.R_lt (rL Bj.out))) (bZ (by repeat (first|(with_reducible first|exact HB.out|apply oA|apply pN|apply o1|refine bS ?_ Bk.out|refine bS ?_ Bo.out)|exact HB.out))))
 have n9_:=Am (bB (g:=Bc) (o:=.cells #[.slice Ao14 t185.length co14,.slice Ao16 t188.length co16,.slice Ao17 t191.length co17] 26 (0,0)) (bL Bb.out) hb)
 have n10_:=Am (bB (g:=Ba) (o:=.cells #[.slice Ao20 t195.length co20,.slice Ao23 t198.length co23,.slice Ao24 t201.length co24] 26 (0,0)) (bL Bg.out) hb)
 have n11_:=Am (bP (by repeat (first|(with_reducible first|exact HB.out|apply oA|apply pN|apply o1|refine bS ?_ Bk.out|refine bS ?_ Bo.out)|exact HB.out)) hb)
 clear Bd
 clear Be
 clear Bf
 clear Bh
 clear Bi
 clear Bj
 clear Bb
 clear Bg
 clear HB
 have Bd:=n0_
 have Be:=n1_
 have Bf:=n2_
 have Bh:=n3_
 have Bi:=n4_
 have Bj:=n5_
 have Bl:=n6_
 have Bm:=n7_
 have Bn:=n8_
 have Bb:=n9_
 have Bg:=n10_
 have HB:=n11_
 clear n0_ n1_ n2_ n3_ n4_ n5_ n6_ n7_ n8_ n9_ n10_ n11_
 (try clear hb)
 (try clear hb2)
 (try clear hk)
 (try clear hi)
 (try clear ho0)
 (try clear ho1)
 (try clear ho2)
 obtain ⟨Ao28,co28,eo28⟩:=Kd.R_slice Bl.out
 (first|subst eo28|(injection eo28 with f1_ f2_ f3_;have f4_:=f1_.symm;have f5_:=f3_.symm;clear f1_ f2_ f3_;subst f4_;subst f5_))
 obtain ⟨Ao29,co29,eo29⟩:=Kd.R_slice Bm.out
 (first|subst eo29|(injection eo29 with f1_ f2_ f3_;have f4_:=f1_.symm;have f5_:=f3_.symm;clear f1_ f2_ f3_;subst f4_;subst f5_))
 obtain ⟨Ao30,co30,eo30⟩:=Kd.R_slice Bn.out
 (first|subst eo30|(injection eo30 with f1_ f2_ f3_;have f4_:=f1_.symm;have f5_:=f3_.symm;clear f1_ f2_ f3_;subst f4_;subst f5_))
 refine hK.out _ _ ⟨(bC Bb.out 0).trans rfl,(bC Bb.out 1).trans rfl,(bC Bb.out 2).trans rfl⟩ (fun hHeld=>?_)
 clear hK K
 refine norm_ (by show Act.put _ (some 20) _=_;simp only [Act.put,lA,lZ,lS,iw,jw];rfl) ?_
 refine oS 2 21 z3q3 HT_ rfl rfl (by kernel_rfl) (by decide) (fun K hK=>?_)
 refine goes_ Try.func14 (by kernel_rfl) rfl #[.agg #[.slice Ao14 t185.length co14,.slice Ao16 t188.length co16,.slice Ao17 t191.length co17],.agg #[.slice Ao28 t208.length co28,.slice Ao29 t211.length co29,.slice Ao30 t214.length co30]] (by rfl) rfl rfl (by (try simp only [lM,lC,lN]);first|done|rfl|(simp only [lD,lT];rfl)) ?_
 with_reducible refine (laws_qdSigs.calls k _ _ t185 _ _ t188 _ _ t191 _ _ t208 _ _ t211 _ _ t214 true _ ?side1 ?side2 ?side3 ?side4 ?side5 ?side6 ?side7 ?side8 ?side9 ?side10 ?side11 ?side12 A6.out).mono ?_
 (case side1=>repeat (first|exact (Kd.R_reads' Bd.out).2.2|(with_reducible refine cA ?_ _)|(with_reducible refine cN ?_ _)|(with_reducible refine cD ?_)))
 (case side2=>exact (Kd.R_reads' Bd.out).2.1)
 (case side3=>repeat (first|exact (Kd.R_reads' Be.out).2.2|(with_reducible refine cA ?_ _)|(with_reducible refine cN ?_ _)|(with_reducible refine cD ?_)))
 (case side4=>exact (Kd.R_reads' Be.out).2.1)
 (case side5=>repeat (first|exact (Kd.R_reads' Bf.out).2.2|(with_reducible refine cA ?_ _)|(with_reducible refine cN ?_ _)|(with_reducible refine cD ?_)))
 (case side6=>exact (Kd.R_reads' Bf.out).2.1)
 (case side7=>repeat (first|exact (Kd.R_reads' Bl.out).2.2|(with_reducible refine cA ?_ _)|(with_reducible refine cN ?_ _)|(with_reducible refine cD ?_)))
 (case side8=>exact (Kd.R_reads' Bl.out).2.1)
 (case side9=>repeat (first|exact (Kd.R_reads' Bm.out).2.2|(with_reducible refine cA ?_ _)|(with_reducible refine cN ?_ _)|(with_reducible refine cD ?_)))
 (case side10=>exact (Kd.R_reads' Bm.out).2.1)
 (case side11=>repeat (first|exact (Kd.R_reads' Bn.out).2.2|(with_reducible refine cA ?_ _)|(with_reducible refine cN ?_ _)|(with_reducible refine cD ?_)))
 (case side12=>exact (Kd.R_reads' Bn.out).2.1)
 rintro e w31 ⟨rfl,hb⟩
 refine ⟨_,rfl,?_⟩
 have n0_:=Am (rB (rL Bd.out) hb)
 have n1_:=Am (rB (rL Be.out) hb)
 have n2_:=Am (rB (rL Bf.out) hb)
 have n3_:=Am (rB (rL Bh.out) hb)
 have n4_:=Am (rB (rL Bi.out) hb)
 have n5_:=Am (rB (rL Bj.out) hb)
 have n6_:=Am (rB (rL Bl.out) hb)
 have n7_:=Am (rB (rL Bm.out) hb)
 have n8_:=Am (rB (rL Bn.out) hb)
 have n9_:=Am (bB (g:=Bc) (o:=.cells #[.slice Ao14 t185.length co14,.slice Ao16 t188.length co16,.slice Ao17 t191.length co17] 26 (0,0)) (bL Bb.out) hb)
 have n10_:=Am (bB (g:=Ba) (o:=.cells #[.slice Ao20 t195.length co20,.slice Ao23 t198.length co23,.slice Ao24 t201.length co24] 26 (0,0)) (bL Bg.out) hb)
 have n11_:=Am (bP (by repeat (first|(with_reducible first|exact HB.out|apply oA|apply pN|apply o1|refine bS ?_ Bk.out|refine bS ?_ Bo.out)|exact HB.out)) hb)
 clear Bd
 clear Be
 clear Bf
 clear Bh
 clear Bi
 clear Bj
 clear Bl
 clear Bm
 clear Bn
 clear Bb
 clear Bg
 clear HB
 have Bd:=n0_
 have Be:=n1_
 have Bf:=n2_
 have Bh:=n3_
 have Bi:=n4_
 have Bj:=n5_
 have Bl:=n6_
 have Bm:=n7_
 have Bn:=n8_
 have Bb:=n9_
 have Bg:=n10_
 have HB:=n11_
 clear n0_ n1_ n2_ n3_ n4_ n5_ n6_ n7_ n8_ n9_ n10_ n11_
 (try clear hb)
 (try clear hb2)
 (try clear hk)
 (try clear hi)
 refine hK.out _ _ ⟨(bC Bb.out 0).trans rfl,(bC Bb.out 1).trans rfl,(bC Bb.out 2).trans rfl⟩ (fun hHeld=>?_)
 clear hK K
 refine norm_ (by show Act.put _ (some 21) _=_;simp only [Act.put,lA,lZ,lS,iw,jw];rfl) ?_
 refine pS 3 22 z3q4 HT_ rfl rfl (by kernel_rfl) (by rfl) (by intro w';go_simp;with_reducible rfl) (by simp only [Act.put,lA,lZ,lS,iw,jw];rfl) ?_
 refine tS 4 23 z3q5 HT_ hHeld rfl rfl (by kernel_rfl) (by rfl) (by rintro w' ⟨s0,s1,s2⟩;go_simp;with_reducible rfl) (by simp only [Act.put,lA,lZ,lS,iw,jw];rfl) ?_
 refine oS 5 24 z3q6 HT_ rfl rfl (by kernel_rfl) (by decide) (fun K hK=>?_)
 refine goes_ Try.func16 (by kernel_rfl) rfl #[.agg #[.slice Ao14 t185.length co14,.slice Ao16 t188.length co16,.slice Ao17 t191.length co17]] (by rfl) rfl rfl (by (try simp only [lM,lC,lN]);first|done|rfl|(simp only [lD,lT];rfl)) ?_
 with_reducible refine (impl_SigsOk.calls k _ _ t185 _ _ t188 _ _ t191 true _ ?side1 ?side2 ?side3 ?side4 ?side5 ?side6 A8.out).mono ?_
 (case side1=>repeat (first|exact (Kd.R_reads' Bd.out).2.2|(with_reducible refine cA ?_ _)|(with_reducible refine cN ?_ _)|(with_reducible refine cD ?_)))
 (case side2=>exact (Kd.R_reads' Bd.out).2.1)
 (case side3=>repeat (first|exact (Kd.R_reads' Be.out).2.2|(with_reducible refine cA ?_ _)|(with_reducible refine cN ?_ _)|(with_reducible refine cD ?_)))
 (case side4=>exact (Kd.R_reads' Be.out).2.1)
 (case side5=>repeat (first|exact (Kd.R_reads' Bf.out).2.2|(with_reducible refine cA ?_ _)|(with_reducible refine cN ?_ _)|(with_reducible refine cD ?_)))
 (case side6=>exact (Kd.R_reads' Bf.out).2.1)
 rintro e w32 ⟨rfl,hb⟩
 refine ⟨_,rfl,?_⟩
 have n0_:=Am (rB (rL Bd.out) hb)
 have n1_:=Am (rB (rL Be.out) hb)
 have n2_:=Am (rB (rL Bf.out) hb)
 have n3_:=Am (rB (rL Bh.out) hb)
 have n4_:=Am (rB (rL Bi.out) hb)
 have n5_:=Am (rB (rL Bj.out) hb)
 have n6_:=Am (rB (rL Bl.out) hb)
 have n7_:=Am (rB (rL Bm.out) hb)
 have n8_:=Am (rB (rL Bn.out) hb)
 have n9_:=Am (bB (g:=Bc) (o:=.cells #[.slice Ao14 t185.length co14,.slice Ao16 t188.length co16,.slice Ao17 t191.length co17] 26 (0,0)) (bL Bb.out) hb)
 have n10_:=Am (bB (g:=Ba) (o:=.cells #[.slice Ao20 t195.length co20,.slice Ao23 t198.length co23,.slice Ao24 t201.length co24] 26 (0,0)) (bL Bg.out) hb)
 have n11_:=Am (bP (by repeat (first|(with_reducible first|exact HB.out|apply oA|apply pN|apply o1|refine bS ?_ Bk.out|refine bS ?_ Bo.out)|exact HB.out)) hb)
 clear Bd
 clear Be
 clear Bf
 clear Bh
 clear Bi
 clear Bj
 clear Bl
 clear Bm
 clear Bn
 clear Bb
 clear Bg
 clear HB
 have Bd:=n0_
 have Be:=n1_
 have Bf:=n2_
 have Bh:=n3_
 have Bi:=n4_
 have Bj:=n5_
 have Bl:=n6_
 have Bm:=n7_
 have Bn:=n8_
 have Bb:=n9_
 have Bg:=n10_
 have HB:=n11_
 clear n0_ n1_ n2_ n3_ n4_ n5_ n6_ n7_ n8_ n9_ n10_ n11_
 (try clear hb)
 (try clear hb2)
 (try clear hk)
 (try clear hi)
 refine hK.out _ _ ⟨(bC Bb.out 0).trans rfl,(bC Bb.out 1).trans rfl,(bC Bb.out 2).trans rfl⟩ (fun hHeld=>?_)
 clear hK K
 refine norm_ (by show Act.put _ (some 24) _=_;simp only [Act.put,lA,lZ,lS,iw,jw];rfl) ?_
 refine pS 6 25 z3q7 HT_ rfl rfl (by kernel_rfl) (by rfl) (by intro w';go_simp;with_reducible rfl) (by simp only [Act.put,lA,lZ,lS,iw,jw];rfl) ?_
 refine pS 7 26 z3q8 HT_ rfl rfl (by kernel_rfl) (by rfl) (by intro w';go_simp;with_reducible rfl) (by simp only [Act.put,lA,lZ,lS,iw,jw];rfl) ?_
 refine pS 8 27 z3q9 HT_ rfl rfl (by kernel_rfl) (by rfl) (by intro w';go_simp;with_reducible rfl) (by simp only [Act.put,lA,lZ,lS,iw,jw];rfl) ?_
 refine pS 9 28 z3q10 HT_ rfl rfl (by kernel_rfl) (by rfl) (by intro w';go_simp;with_reducible rfl) (by simp only [Act.put,lA,lZ,lS,iw,jw];rfl) ?_
 refine pS 10 29 z3q11 HT_ rfl rfl (by kernel_rfl) (by rfl) (by intro w';go_simp;with_reducible rfl) (by simp only [Act.put,lA,lZ,lS,iw,jw];rfl) ?_
 refine pS 11 30 z3q12 HT_ rfl rfl (by kernel_rfl) (by rfl) (by intro w';go_simp;with_reducible rfl) (by simp only [Act.put,lA,lZ,lS,iw,jw];rfl) ?_
 refine pS 12 31 z3q13 HT_ rfl rfl (by kernel_rfl) (by rfl) (by intro w';go_simp;with_reducible rfl) (by simp only [Act.put,lA,lZ,lS,iw,jw];rfl) ?_
 refine pS 13 32 z3q14 HT_ rfl rfl (by kernel_rfl) (by rfl) (by intro w';go_simp;with_reducible rfl) (by simp only [Act.put,lA,lZ,lS,iw,jw];rfl) ?_
 refine pS 14 33 z3q15 HT_ rfl rfl (by kernel_rfl) (by rfl) (by intro w';go_simp;with_reducible rfl) (by simp only [Act.put,lA,lZ,lS,iw,jw];rfl) ?_
 refine pS 15 34 z3q16 HT_ rfl rfl (by kernel_rfl) (by rfl) (by intro w';go_simp;with_reducible rfl) (by simp only [Act.put,lA,lZ,lS,iw,jw];rfl) ?_
 refine pS 16 35 z3q17 HT_ rfl rfl (by kernel_rfl) (by rfl) (by intro w';go_simp;with_reducible rfl) (by simp only [Act.put,lA,lZ,lS,iw,jw];rfl) ?_
 refine pS 17 36 z3q18 HT_ rfl rfl (by kernel_rfl) (by rfl) (by intro w';go_simp;with_reducible rfl) (by simp only [Act.put,lA,lZ,lS,iw,jw];rfl) ?_
 refine pS 18 37 z3q19 HT_ rfl rfl (by kernel_rfl) (by rfl) (by intro w';go_simp;with_reducible rfl) (by simp only [Act.put,lA,lZ,lS,iw,jw];rfl) ?_
 refine pS 19 38 z3q20 HT_ rfl rfl (by kernel_rfl) (by rfl) (by intro w';go_simp;with_reducible rfl) (by simp only [Act.put,lA,lZ,lS,iw,jw];rfl) ?_
 refine pS 20 2 z3q21 HT_ rfl rfl (by kernel_rfl) (by rfl) (by intro w';go_simp;with_reducible rfl) (by simp only [Act.put,lA,lZ,lS,iw,jw];rfl) ?_
 refine done_ (done_of HT_.out (by kernel_rfl)) ?_
 try go_wp2
 go_ret
 exact ⟨by first|rfl|(simp [errW_none,errW_some] <;> rfl)|(simp [*,errW_none,errW_some] <;> rfl),by repeat (first|(with_reducible first|exact HB.out|apply oA|apply pN|apply o1|refine bS ?_ Bk.out|refine bS ?_ Bo.out)|exact HB.out)⟩
/-- THE ONE PURE STATEMENT of laws_FnSigsNew: yours. -/
def laws_FnSigsNew.Pure:Prop:=∀ (l0:List Int),l0.length≤maxLen → l0.length * 1≤140737488351232 → (∀ x ∈ l0,(Lit.int .u8 x).wf=true) → ∃ k,laws_FnSigsNew.f k l0=some true
theorem laws_FnSigsNew.walk (P:laws_FnSigsNew.Pure) (a0:Option Addr) (len0 cap0:Nat) (z0:List Int) (w:World) (w0:(a0=none∧len0=0∧cap0=0∧z0=[])∨∃ x,a0=some x∧len0≤cap0∧cap0≤maxLen∧z0.length=cap0∧(∀ i,i<z0.length → w.cell? (x.add i)=some (.int .u8 (z0.getD i 0)))∧∀ n ∈ z0,(Lit.int .u8 n).wf=true) (y0:len0 * 1≤140737488351232) :
  Calls Try.prog 3 #[.slice a0 len0 cap0] w fun e w'=>e=.returned (.bool true)∧Below w.heap.size w w':=by
 obtain ⟨l0,rfl,hr0,hm0,hw0,hc0⟩:=ReadsInt.ofRowC w0
 obtain ⟨k,h⟩:=P l0 hm0 y0 hw0
 refine (laws_FnSigsNew.calls k _ _ l0 true w (Kd.C_of_reads (d:=(0:Int)) (h1:=fun _=>rfl) hr0) hc0 h ⟨rfl⟩).mono ?_
 rintro e w' ⟨rfl,hd⟩
 exact ⟨rfl,hd⟩

end Go.Proofs.Ytiifanjjohophaa.PFnSigsNew
