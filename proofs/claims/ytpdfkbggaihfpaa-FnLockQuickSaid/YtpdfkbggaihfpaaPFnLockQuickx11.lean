/- Proved here, without a condition beyond those that each theorem states: what the Go functions named below do is what the plain functions of the same names say. Written by xprint.py, a program of this session. -/
import Derived.Test.YtpdfkbggaihfpaaPFnLockQuickx0
import Derived.Test.YtpdfkbggaihfpaaPFnLockQuickx1
import Derived.Test.YtpdfkbggaihfpaaPFnLockQuickx2
import Derived.Test.YtpdfkbggaihfpaaPFnLockQuickx3
import Derived.Test.YtpdfkbggaihfpaaPFnLockQuickx4
import Derived.Test.YtpdfkbggaihfpaaPFnLockQuickx5
import Derived.Test.YtpdfkbggaihfpaaPFnLockQuickx10
namespace Go.Proofs.Ytpdfkbggaihfpaa.PFnLockQuick
open Go.RowKit Go.Proofs.YtpdfkbggaihfpaaW.PrintWords Go.Proofs.YtpdfkbggaihfpaaW.PrintLast Go.Proofs.YtpdfkbggaihfpaaW.PrintMore
attribute [local go_sem] max2_int min2_int max_two min_two max_three min_three max_four min_four   -- for this text's walks alone
set_option linter.unusedVariables false
set_option linter.unusedSimpArgs false

attribute [local go_sem ↓] isSome_setCell_
attribute [local go_sem high] eqA57
/-! ### laws_FnLockQuick: function 10 -/
def laws_FnLockQuick.j0 : Nat → Int → Bool → Bool → Bool → Int → List (S57) → List Int → Int → List (S57) → List Int → Option (Bool)
|0, _, _, _, _, _, _, _, _, _, _ => none
|k + 1, x4, x6, x8, x41, x253000, x253001, x253002, x262000, x262001, x262002 => if x41 = true then (if (x6 == x8) = true then ((laws_qdLock.f k x253000 x253001 x253002 x262000 x262001 x262002).bind fun t263 => (some t263)) else (some false)) else (if 0 ≤ (wrap64 (2 * x4)) then (if (wrap64 (2 * x4) : Int).toNat ≤ 35184372088832 then ((impl_LockRun.f k x253000 x253001 x253002 (List.replicate (wrap64 (2 * x4) : Int).toNat 0)).bind fun bt267 => (if bt267.2.2.2 = (wrap64 (2 * x4)) then (if bt267.1 = 0 then (if 0 < (bt267.2.1.length : Int) then (some (((rd_T57 bt267.2.1 0).f0) == 0 && (((rd_T57 bt267.2.1 0).f1) == 0 && (((rd_T57 bt267.2.1 0).f2) == 0 && (!((rd_T57 bt267.2.1 0).f3)))))) else (none)) else (some false)) else (some false))) else (none)) else (none))
def laws_FnLockQuick.f (k : Nat) (l0 : List Int) : Option (Bool) := if (l0.length : Int) > 1048576 then (some true) else ((spec_DrawLockNew.f k l0).bind fun bt242 => ((impl_LockNew.f k 1 bt242.2).bind fun bt244 => ((spec_LockNew.f k 1 bt242.2).bind fun bt253 => (if (bt244.2.2.2 != bt253.2.2.2) = true then (laws_FnLockQuick.j0 k bt242.2 bt244.2.2.2 bt253.2.2.2 true bt244.1 bt244.2.1 bt244.2.2.1 bt253.1 bt253.2.1 bt253.2.2.1) else ((laws_qdLock.f k bt244.1 bt244.2.1 bt244.2.2.1 bt253.1 bt253.2.1 bt253.2.2.1).bind fun t262 => (if t262 = true then (laws_FnLockQuick.j0 k bt242.2 bt244.2.2.2 bt253.2.2.2 (!bt244.2.2.2) bt244.1 bt244.2.1 bt244.2.2.1 bt253.1 bt253.2.1 bt253.2.2.1) else (laws_FnLockQuick.j0 k bt242.2 bt244.2.2.2 bt253.2.2.2 true bt244.1 bt244.2.1 bt244.2.2.1 bt253.1 bt253.2.1 bt253.2.2.1)))))))
theorem laws_FnLockQuick.mono_l : ∀ k, (∀ y0 y1 y2 y3 y4 y5 y6 y7 y8 y9, LeO (laws_FnLockQuick.j0 k y0 y1 y2 y3 y4 y5 y6 y7 y8 y9) (laws_FnLockQuick.j0 (k + 1) y0 y1 y2 y3 y4 y5 y6 y7 y8 y9))
|0 => fun _ _ _ _ _ _ _ _ _ _ r h => by simp [laws_FnLockQuick.j0] at h
|k + 1 => by
  have ih0 := laws_FnLockQuick.mono_l k
  ·intro y0 y1 y2 y3 y4 y5 y6 y7 y8 y9
   unfold laws_FnLockQuick.j0
   repeat' first
  |(with_reducible exact ih0 _ _ _ _ _ _ _ _ _ _)
  |(with_reducible exact impl_LockNew.mono _ _ _)
  |(with_reducible exact impl_LockRun.mono _ _ _ _ _)
  |(with_reducible exact laws_qdLock.mono _ _ _ _ _ _ _)
  |(with_reducible exact spec_DrawLockNew.mono _ _)
  |(with_reducible exact spec_LockNew.mono _ _ _)
  |(with_reducible exact LeO.refl _)
  |(with_reducible exact LeO.none _)
  |(with_reducible refine LeO.ite ?_ ?_)
  |(with_reducible refine LeO.bind ?_ (fun _ => ?_))
  |exact ih0 _ _ _ _ _ _ _ _ _ _
  |exact impl_LockNew.mono _ _ _
  |exact impl_LockRun.mono _ _ _ _ _
  |exact laws_qdLock.mono _ _ _ _ _ _ _
  |exact spec_DrawLockNew.mono _ _
  |exact spec_LockNew.mono _ _ _
  |exact LeO.none _
  |refine LeO.ite ?_ ?_
  |refine LeO.bind ?_ (fun _ => ?_)
theorem laws_FnLockQuick.mono : ∀ a0 k, LeO (laws_FnLockQuick.f k a0) (laws_FnLockQuick.f (k + 1) a0) := by
 intro a0 k
 have ih0 := laws_FnLockQuick.mono_l k
 unfold laws_FnLockQuick.f
 repeat' first
  |(with_reducible exact ih0 _ _ _ _ _ _ _ _ _ _)
  |(with_reducible exact impl_LockNew.mono _ _ _)
  |(with_reducible exact impl_LockRun.mono _ _ _ _ _)
  |(with_reducible exact laws_qdLock.mono _ _ _ _ _ _ _)
  |(with_reducible exact spec_DrawLockNew.mono _ _)
  |(with_reducible exact spec_LockNew.mono _ _ _)
  |(with_reducible exact LeO.refl _)
  |(with_reducible exact LeO.none _)
  |(with_reducible refine LeO.ite ?_ ?_)
  |(with_reducible refine LeO.bind ?_ (fun _ => ?_))
  |exact ih0 _ _ _ _ _ _ _ _ _ _
  |exact impl_LockNew.mono _ _ _
  |exact impl_LockRun.mono _ _ _ _ _
  |exact laws_qdLock.mono _ _ _ _ _ _ _
  |exact spec_DrawLockNew.mono _ _
  |exact spec_LockNew.mono _ _ _
  |exact LeO.none _
  |refine LeO.ite ?_ ?_
  |refine LeO.bind ?_ (fun _ => ?_)
def laws_FnLockQuick.T8 : Bool × List (List Nat × List Nat) := (true, [([], []), ([], []), ([1], [1]), ([2, 2], [2]), ([0, 3], [0, 3]), ([4], [4]), ([5], [5]), ([5], [5]), ([], []), ([8, 6, 4, 0, 1, 2, 3, 4, 5, 6, 8], [6, 8]), ([7, 9, 0, 1, 2, 3, 4, 5, 6, 7, 8, 9], [7])])
def laws_FnLockQuick.B8 : List Nat := [0, 0, 2, 6, 15, 31, 63, 63, 0, 383, 1023]
theorem laws_FnLockQuick.tab8 : rtab .any (opsOf Try.f10 8) = laws_FnLockQuick.T8 := by kernel_rfl
theorem laws_FnLockQuick.bits8 : waitsOk laws_FnLockQuick.T8.2 laws_FnLockQuick.B8 = true := by kernel_rfl
abbrev z10q0 : Array Bool := bQ 11 0
abbrev z10q1 : Array Bool := bQ 11 2
abbrev z10q2 : Array Bool := bQ 11 6
abbrev z10q3 : Array Bool := bQ 11 7
abbrev z10q4 : Array Bool := bQ 11 511
abbrev z10q5 : Array Bool := bQ 11 15
abbrev z10q6 : Array Bool := bQ 11 263
abbrev z10q7 : Array Bool := bQ 11 31
abbrev z10q8 : Array Bool := bQ 11 271
abbrev z10q9 : Array Bool := bQ 11 63
abbrev z10q10 : Array Bool := bQ 11 127
abbrev z10q11 : Array Bool := bQ 11 255
abbrev z10q12 : Array Bool := bQ 11 287
abbrev z10q13 : Array Bool := bQ 11 319
abbrev z10q14 : Array Bool := bQ 11 383
abbrev z10q15 : Array Bool := bQ 11 1023
abbrev z10q16 : Array Bool := bQ 11 2047
set_option maxHeartbeats 2000000 in
set_option maxRecDepth 100000 in
theorem laws_FnLockQuick.calls (k:Nat) (A0:Option Addr) (c0:Nat) (l0:List Int) (r:Bool) (w:World) (hr0:Kd.C (Kd.int .u8) w A0 l0.length l0) (hc0:l0.length≤c0) (h:laws_FnLockQuick.f k l0=some r) (hT_:Aside0 (r=true)) :
  Calls Try.prog 10 #[.slice A0 l0.length c0] w fun e w'=>e=.returned (.bool r)∧Below w.heap.size w w':=by
 have hu51:=Try.underlying51
 have hu57:=Try.underlying57
 have HR0:=Am hr0
 have HC0:=Am hc0
 clear hr0 hc0
 have HB:=Am (bJ w.heap.size w)
 have H:(if (l0.length:Int) > 1048576 then (some true) else ((spec_DrawLockNew.f k l0).bind fun bt242=>((impl_LockNew.f k 1 bt242.2).bind fun bt244=>((spec_LockNew.f k 1 bt242.2).bind fun bt253=>(if (bt244.2.2.2 != bt253.2.2.2)=true then (laws_FnLockQuick.j0 k bt242.2 bt244.2.2.2 bt253.2.2.2 true bt244.1 bt244.2.1 bt244.2.2.1 bt253.1 bt253.2.1 bt253.2.2.1) else ((laws_qdLock.f k bt244.1 bt244.2.1 bt244.2.2.1 bt253.1 bt253.2.1 bt253.2.2.1).bind fun t262=>(if t262=true then (laws_FnLockQuick.j0 k bt242.2 bt244.2.2.2 bt253.2.2.2 (!bt244.2.2.2) bt244.1 bt244.2.1 bt244.2.2.1 bt253.1 bt253.2.1 bt253.2.2.1) else (laws_FnLockQuick.j0 k bt242.2 bt244.2.2.2 bt253.2.2.2 true bt244.1 bt244.2.1 bt244.2.2.1 bt253.1 bt253.2.1 bt253.2.2.1))))))))=some r:=h
 clear h
 by_cases c2:(l0.length:Int) > 1048576
 ·rw [if_pos c2] at H
  have c2b0:decide (1048576<(l0.length:Int))=true:=dT c2
  have c2b1:decide (1048576<l0.length)=true:=dT (by omega)
  clear c2
  obtain rfl:=oJ H
  go_enter Try.func10,Try.ntmps10
  go_wp2
  go_ret
  exact ⟨by first|rfl|(simp [errW_none,errW_some] <;> rfl)|(simp [*,errW_none,errW_some] <;> rfl),by repeat (first|(with_reducible first|exact HB.out|apply oA|apply pN|apply o1)|exact HB.out)⟩
 rw [if_neg c2] at H
 have c2b0:decide (1048576<(l0.length:Int))=false:=dF c2
 have c2b1:decide (1048576<l0.length)=false:=dF (by omega)
 clear c2
 replace H:=oC H
 obtain ⟨⟨t242,t243⟩,A30,H⟩:=H
 replace H:((impl_LockNew.f k 1 t243).bind fun bt244=>((spec_LockNew.f k 1 t243).bind fun bt253=>(if (bt244.2.2.2 != bt253.2.2.2)=true then (laws_FnLockQuick.j0 k t243 bt244.2.2.2 bt253.2.2.2 true bt244.1 bt244.2.1 bt244.2.2.1 bt253.1 bt253.2.1 bt253.2.2.1) else ((laws_qdLock.f k bt244.1 bt244.2.1 bt244.2.2.1 bt253.1 bt253.2.1 bt253.2.2.1).bind fun t262=>(if t262=true then (laws_FnLockQuick.j0 k t243 bt244.2.2.2 bt253.2.2.2 (!bt244.2.2.2) bt244.1 bt244.2.1 bt244.2.2.1 bt253.1 bt253.2.1 bt253.2.2.1) else (laws_FnLockQuick.j0 k t243 bt244.2.2.2 bt253.2.2.2 true bt244.1 bt244.2.1 bt244.2.2.1 bt253.1 bt253.2.1 bt253.2.2.1))))))=some r:=H
 have A3:=Am A30
 clear A30
 replace H:=oC H
 obtain ⟨⟨t244,t245,t248,t251⟩,A40,H⟩:=H
 replace H:((spec_LockNew.f k 1 t243).bind fun bt253=>(if (t251 != bt253.2.2.2)=true then (laws_FnLockQuick.j0 k t243 t251 bt253.2.2.2 true t244 t245 t248 bt253.1 bt253.2.1 bt253.2.2.1) else ((laws_qdLock.f k t244 t245 t248 bt253.1 bt253.2.1 bt253.2.2.1).bind fun t262=>(if t262=true then (laws_FnLockQuick.j0 k t243 t251 bt253.2.2.2 (!t251) t244 t245 t248 bt253.1 bt253.2.1 bt253.2.2.1) else (laws_FnLockQuick.j0 k t243 t251 bt253.2.2.2 true t244 t245 t248 bt253.1 bt253.2.1 bt253.2.2.1)))))=some r:=H
 have A4:=Am A40
 clear A40
 replace H:=oC H
 obtain ⟨⟨t253,t254,t257,t260⟩,A50,H⟩:=H
 replace H:(if (t251 != t260)=true then (laws_FnLockQuick.j0 k t243 t251 t260 true t244 t245 t248 t253 t254 t257) else ((laws_qdLock.f k t244 t245 t248 t253 t254 t257).bind fun t262=>(if t262=true then (laws_FnLockQuick.j0 k t243 t251 t260 (!t251) t244 t245 t248 t253 t254 t257) else (laws_FnLockQuick.j0 k t243 t251 t260 true t244 t245 t248 t253 t254 t257))))=some r:=H
 have A5:=Am A50
 clear A50
 have HC6:=Am H
 clear H
 go_enter Try.func10,Try.ntmps10
 go_upto_region 6 with (first|((with_reducible refine gC (f:=32) rfl ?_);refine goesL_ (some 16) rfl rfl Try.func32 (by kernel_rfl) rfl #[.slice A0 l0.length c0] rfl (by (try simp only [lM,lC,lN]);first|done|rfl|(simp only [lD,lT];rfl)) ?_;(with_reducible refine (spec_DrawLockNew.calls k _ _ l0 t242 t243 _ ?side1 ?side2 A3.out).mono ?_);(case side1=>exact cL HR0.out);(case side2=>exact HC0.out);rintro e w7 ⟨rfl,hb⟩;refine ⟨_,rfl,?_⟩;have n0_:=Am (bP (by repeat (first|(with_reducible first|exact HB.out|apply oA|apply pN|apply o1)|exact HB.out)) hb);clear HB;revert n0_;intro HB;(try clear hb);(try clear hb2);(try clear hk);(try clear hi))|((with_reducible refine gC (f:=33) rfl ?_);refine goesL_ (some 21) rfl rfl Try.func33 (by kernel_rfl) rfl #[.int .i64 1,.int .i64 t243] rfl (by (try simp only [lM,lC,lN]);first|done|rfl|(simp only [lD,lT];rfl)) ?_;(with_reducible refine (impl_LockNew.calls k 1 t243 t244 t245 t248 t251 _ A4.out).mono ?_);rintro e w8 ⟨v246,v249,rfl,ho0,ho1,hb⟩;refine ⟨_,rfl,?_⟩;have n0_:=Am (rW ho0 (bZ (by repeat (first|(with_reducible first|exact HB.out|apply oA|apply pN|apply o1)|exact HB.out))));have n1_:=Am (rW ho1 (bZ (by repeat (first|(with_reducible first|exact HB.out|apply oA|apply pN|apply o1)|exact HB.out))));have n2_:=Am (bP (by repeat (first|(with_reducible first|exact HB.out|apply oA|apply pN|apply o1)|exact HB.out)) hb);clear HB;revert n0_ n1_ n2_;intro Bo Bp HB;(try clear hb);(try clear hb2);(try clear hk);(try clear hi);(try clear ho0);(try clear ho1))|((with_reducible refine gD (N:=5) rfl ?_);refine bI ?hg (N:=5) ?hd (cs:=#[.int .i64 0,.slice none 0 0,.slice none 0 0]) (t:=51) ?hr ?_;(case hd=>rfl);(case hg=>rfl);(case hr=>first|(go_simp;done)|(go_simp;rfl));intro Bh hg w9 hbox hb;have n0_:=Am (rB (rL Bo.out) hb);have n1_:=Am (rB (rL Bp.out) hb);have n2_:=Am (bP (by repeat (first|(with_reducible first|exact HB.out|apply oA|apply pN|apply o1)|exact HB.out)) hb);have n3_:=Am (hbox);have n4_:=Am ((by rw [hg];exact (bZ (by repeat (first|(with_reducible first|exact HB.out|apply oA|apply pN|apply o1)|exact HB.out))):w.heap.size≤Bh));have n5_:=Am ((by rw [hg];exact (bZ (by repeat (first|(with_reducible first|exact HB.out|apply oA|apply pN|apply o1)|exact HB.out))):w.heap.size≤Bh));clear Bo Bp HB;revert n0_ n1_ n2_ n3_ n4_ n5_;intro Bo Bp HB Ba Du Bj;clear hb hbox hg;have BB:=cz0 Ba.out;have BC:=cz1 Ba.out;have BD:=cz2 Ba.out;have BE:=bF Ba.out 0;have BF:=bF Ba.out 1;have BG:=bF Ba.out 2;obtain ⟨Ao11,co11,eo11⟩:=rC Bo.out;subst eo11;obtain ⟨Ao12,co12,eo12⟩:=rC Bp.out;subst eo12)|((with_reducible refine gC (f:=34) rfl ?_);refine goesL_ (some 26) rfl rfl Try.func34 (by kernel_rfl) rfl #[.int .i64 1,.int .i64 t243] rfl (by (try simp only [lM,lC,lN]);first|done|rfl|(simp only [lD,lT];rfl)) ?_;(with_reducible refine (spec_LockNew.calls k 1 t243 t253 t254 t257 t260 _ A5.out).mono ?_);rintro e w13 ⟨v255,v258,rfl,ho0,ho1,hb⟩;refine ⟨_,rfl,?_⟩;have n0_:=Am (rX (by (with_reducible repeat (first|apply rA|apply rN|apply rD));exact (rM (rF (p:=⟨Bh,2,none⟩) (rF (p:=⟨Bh,1,none⟩) (rF (p:=⟨Bh,0,none⟩) (rT Bo.out Ba.out (by decide)) (fun _ hk=>hk.2) (.int .i64 t244)) (fun _ hk=>hk.2) (.slice Ao11 t245.length co11)) (fun _ hk=>hk.2) (.slice Ao12 t248.length co12)) (fun _ h_=>h_.1))) (rZ ho0) hb);have n1_:=Am (rX (by (with_reducible repeat (first|apply rA|apply rN|apply rD));exact (rM (rF (p:=⟨Bh,2,none⟩) (rF (p:=⟨Bh,1,none⟩) (rF (p:=⟨Bh,0,none⟩) (rT Bp.out Ba.out (by decide)) (fun _ hk=>hk.2) (.int .i64 t244)) (fun _ hk=>hk.2) (.slice Ao11 t245.length co11)) (fun _ hk=>hk.2) (.slice Ao12 t248.length co12)) (fun _ h_=>h_.1))) (rZ ho1) hb);have n2_:=Am (rW (rQ ho0 (rI (by (with_reducible repeat (first|apply rA|apply rN|apply rD));exact (rM (rF (p:=⟨Bh,2,none⟩) (rF (p:=⟨Bh,1,none⟩) (rF (p:=⟨Bh,0,none⟩) (rT Bo.out Ba.out (by decide)) (fun _ hk=>hk.2) (.int .i64 t244)) (fun _ hk=>hk.2) (.slice Ao11 t245.length co11)) (fun _ hk=>hk.2) (.slice Ao12 t248.length co12)) (fun _ h_=>h_.1))))) (bZ (by repeat (first|(with_reducible first|exact HB.out|apply oA|apply pN|apply o1|refine bS ?_ Bj.out)|exact HB.out))));have n3_:=Am (rW (rQ ho1 (rI (by (with_reducible repeat (first|apply rA|apply rN|apply rD));exact (rM (rF (p:=⟨Bh,2,none⟩) (rF (p:=⟨Bh,1,none⟩) (rF (p:=⟨Bh,0,none⟩) (rT Bp.out Ba.out (by decide)) (fun _ hk=>hk.2) (.int .i64 t244)) (fun _ hk=>hk.2) (.slice Ao11 t245.length co11)) (fun _ hk=>hk.2) (.slice Ao12 t248.length co12)) (fun _ h_=>h_.1))))) (bZ (by repeat (first|(with_reducible first|exact HB.out|apply oA|apply pN|apply o1|refine bS ?_ Bj.out)|exact HB.out))));have n4_:=Am (bB (g:=Bh) (o:=.cells #[.int .i64 t244,.slice Ao11 t245.length co11,.slice Ao12 t248.length co12] 51 (0,0)) (by (with_reducible repeat (first|refine bN ?_ _|refine bD ?_|refine bA ?_ _));refine bT (cs:=#[.int .i64 t244,.slice Ao11 t245.length co11,.slice none 0 0]) ?_ 2 _ rfl;(with_reducible repeat (first|refine bN ?_ _|refine bD ?_|refine bA ?_ _));refine bT (cs:=#[.int .i64 t244,.slice none 0 0,.slice none 0 0]) ?_ 1 _ rfl;(with_reducible repeat (first|refine bN ?_ _|refine bD ?_|refine bA ?_ _));refine bT (cs:=#[.int .i64 0,.slice none 0 0,.slice none 0 0]) ?_ 0 _ rfl;(with_reducible repeat (first|refine bN ?_ _|refine bD ?_|refine bA ?_ _));exact Ba.out) hb);have n5_:=Am (bP (by repeat (first|(with_reducible first|exact HB.out|apply oA|apply pN|apply o1|refine bS ?_ Bj.out)|exact HB.out)) hb);clear Bo Bp Ba HB;revert n0_ n1_ n2_ n3_ n4_ n5_;intro Bo Bp Bu Bv Ba HB;(try clear hb);(try clear hb2);(try clear hk);(try clear hi);(try clear ho0);(try clear ho1))|((with_reducible refine gD (N:=7) rfl ?_);refine bI ?hg (N:=7) ?hd (cs:=#[.int .i64 0,.slice none 0 0,.slice none 0 0]) (t:=51) ?hr ?_;(case hd=>rfl);(case hg=>rfl);(case hr=>first|(go_simp;done)|(go_simp;rfl));intro Bb hg w14 hbox hb;have n0_:=Am (rB (rL Bo.out) hb);have n1_:=Am (rB (rL Bp.out) hb);have n2_:=Am (rB (rL Bu.out) hb);have n3_:=Am (rB (rL Bv.out) hb);have n4_:=Am (bX Ba.out hb);have n5_:=Am (bP (by repeat (first|(with_reducible first|exact HB.out|apply oA|apply pN|apply o1|refine bS ?_ Bj.out)|exact HB.out)) hb);have n6_:=Am (hbox);have n7_:=Am ((by rw [hg];exact (bZ (by repeat (first|(with_reducible first|exact HB.out|apply oA|apply pN|apply o1|refine bS ?_ Bj.out)|exact HB.out))):w.heap.size≤Bb));have n8_:=Am ((by rw [hg];exact (bZ (by repeat (first|(with_reducible first|exact HB.out|apply oA|apply pN|apply o1|refine bS ?_ Bj.out)|exact HB.out))):w.heap.size≤Bb));have n9_:=Am ((nL Ba.out hg));have n10_:=Am ((nG Ba.out hg));clear Bo Bp Bu Bv Ba HB;revert n0_ n1_ n2_ n3_ n4_ n5_ n6_ n7_ n8_ n9_ n10_;intro Bo Bp Bu Bv Ba HB Bc Dv Bl Bx Bz;clear hb hbox hg;have Dw:=Bz.out;have Dx:=Bx.out;have BH:=cz0 Bc.out;have BI:=cz1 Bc.out;have BJ:=cz2 Bc.out;have BK:=bF Bc.out 0;have BL:=bF Bc.out 1;have BM:=bF Bc.out 2;obtain ⟨Ao17,co17,eo17⟩:=rC Bu.out;subst eo17;obtain ⟨Ao18,co18,eo18⟩:=rC Bv.out;subst eo18))
 (try simp only [Act.put,lA,lZ,lS])
 go_cut [41] (fun v41 wc=>∃ (kq:Nat) (x41_5:Bool),v41=.bool x41_5∧Aside0 (laws_FnLockQuick.j0 kq t243 t251 t260 x41_5 t244 t245 t248 t253 t254 t257=some r)∧Aside0 (kq≤k)∧Aside0 (Kd.R k57 57 wc w.heap.size (fun k_=>some k_≠((.slice Ao17 t254.length co17):Value).ownBlock) (.slice Ao11 t245.length co11) t245)∧Aside0 (Kd.Q (Kd.int .i64) 3 wc w.heap.size (fun k_=>some k_≠((.slice Ao18 t257.length co18):Value).ownBlock) (.slice Ao12 t248.length co12) t248)∧Aside0 (Kd.R k57 57 wc w.heap.size (fun k_=>some k_≠((.slice Ao11 t245.length co11):Value).ownBlock) (.slice Ao17 t254.length co17) t254)∧Aside0 (Kd.Q (Kd.int .i64) 3 wc w.heap.size (fun k_=>some k_≠((.slice Ao12 t248.length co12):Value).ownBlock) (.slice Ao18 t257.length co18) t257)∧Aside0 (wc.heap[Bh]?=some (.cells #[.int .i64 t244,(.slice Ao11 t245.length co11),(.slice Ao12 t248.length co12)] 51 (0,0)))∧Aside0 (wc.heap[Bb]?=some (.cells #[.int .i64 t253,(.slice Ao17 t254.length co17),(.slice Ao18 t257.length co18)] 51 (0,0)))∧Aside0 (Below w.heap.size w wc))
 case first =>
  have H:=HC6.out
  clear HC6
  by_cases c19:(t251 != t260)=true
  ·rw [if_pos c19] at H
   have c19b0:(t251 != t260)=true:=c19
   (try (have c19b1:decide (t251=t260)=false:=by simpa using c19))
   (try (have c19b2:(t251 == t260)=false:=by simpa using c19))
   (try (have c19b3:¬ (t251=t260):=by simpa using c19))
   clear c19
   (first|rw [c19b0]|(simp only [i64_w,i32_w];rw [c19b0])|skip)
   have H':=Am H
   clear H
   go_wp2
   go_meet
   case rel=>exact ⟨_,(true),(by first|rfl|(simp;done)|(simp [*];done)),H',⟨by first|omega|exact nR _⟩,⟨by (with_reducible repeat (first|apply rA|apply rN|apply rD));exact rM (rF (p:=⟨Bb,2,none⟩) (rF (p:=⟨Bb,1,none⟩) (rF (p:=⟨Bb,0,none⟩) (rT Bo.out Bc.out (by decide)) (fun _ hk=>hk.2) (.int .i64 t253)) (fun _ hk=>hk.2) (.slice Ao17 t254.length co17)) (fun _ hk=>hk.2) (.slice Ao18 t257.length co18)) (fun _ hk=>hk.1.2)⟩,⟨Kd.Q_of_R (by (with_reducible repeat (first|apply rA|apply rN|apply rD));exact rM (rF (p:=⟨Bb,2,none⟩) (rF (p:=⟨Bb,1,none⟩) (rF (p:=⟨Bb,0,none⟩) (rT Bp.out Bc.out (by decide)) (fun _ hk=>hk.2) (.int .i64 t253)) (fun _ hk=>hk.2) (.slice Ao17 t254.length co17)) (fun _ hk=>hk.2) (.slice Ao18 t257.length co18)) (fun _ hk=>hk.1.2))⟩,⟨by (with_reducible repeat (first|apply rA|apply rN|apply rD));exact rM (rF (p:=⟨Bb,2,none⟩) (rF (p:=⟨Bb,1,none⟩) (rF (p:=⟨Bb,0,none⟩) (rT Bu.out Bc.out (by decide)) (fun _ hk=>hk.2) (.int .i64 t253)) (fun _ hk=>hk.2) (.slice Ao17 t254.length co17)) (fun _ hk=>hk.2) (.slice Ao18 t257.length co18)) (fun _ hk=>hk.1.2)⟩,⟨Kd.Q_of_R (by (with_reducible repeat (first|apply rA|apply rN|apply rD));exact rM (rF (p:=⟨Bb,2,none⟩) (rF (p:=⟨Bb,1,none⟩) (rF (p:=⟨Bb,0,none⟩) (rT Bv.out Bc.out (by decide)) (fun _ hk=>hk.2) (.int .i64 t253)) (fun _ hk=>hk.2) (.slice Ao17 t254.length co17)) (fun _ hk=>hk.2) (.slice Ao18 t257.length co18)) (fun _ hk=>hk.1.2))⟩,⟨by (with_reducible repeat (first|refine bN ?_ _|refine bD ?_|refine bA ?_ _|refine bE ?_ Bx.out _));exact Ba.out⟩,⟨by (with_reducible repeat (first|refine bN ?_ _|refine bD ?_|refine bA ?_ _));refine bT (cs:=#[.int .i64 t253,.slice Ao17 t254.length co17,.slice none 0 0]) ?_ 2 _ rfl;(with_reducible repeat (first|refine bN ?_ _|refine bD ?_|refine bA ?_ _));refine bT (cs:=#[.int .i64 t253,.slice none 0 0,.slice none 0 0]) ?_ 1 _ rfl;(with_reducible repeat (first|refine bN ?_ _|refine bD ?_|refine bA ?_ _));refine bT (cs:=#[.int .i64 0,.slice none 0 0,.slice none 0 0]) ?_ 0 _ rfl;(with_reducible repeat (first|refine bN ?_ _|refine bD ?_|refine bA ?_ _));exact Bc.out⟩,⟨by repeat (first|(with_reducible first|exact HB.out|apply oA|apply pN|apply o1|refine bS ?_ Bj.out|refine bS ?_ Bl.out)|exact HB.out)⟩⟩
  rw [if_neg c19] at H
  have c19b0:(t251 != t260)=false:=by simpa using c19
  (try (have c19b1:decide (t251=t260)=true:=by simpa using c19))
  (try (have c19b2:(t251 == t260)=true:=by simpa using c19))
  clear c19
  (first|rw [c19b0]|(simp only [i64_w,i32_w];rw [c19b0])|skip)
  replace H:=oC H
  obtain ⟨t262,A200,H⟩:=H
  replace H:(if t262=true then (laws_FnLockQuick.j0 k t243 t251 t260 (!t251) t244 t245 t248 t253 t254 t257) else (laws_FnLockQuick.j0 k t243 t251 t260 true t244 t245 t248 t253 t254 t257))=some r:=H
  have A20:=Am A200
  clear A200
  by_cases c21:t262=true
  ·subst c21
   have H1:(laws_FnLockQuick.j0 k t243 t251 t260 (!t251) t244 t245 t248 t253 t254 t257)=some r:=by rw [if_pos rfl] at H;exact H
   clear H
   have H:=H1
   clear H1
   have H':=Am H
   clear H
   have Dy:=Bx.out
   have Dz:=Bz.out
   have BN:=cz0 Ba.out
   have BO:=cz1 Ba.out
   have BP:=cz2 Ba.out
   have BQ:=bF Ba.out 0
   have BR:=bF Ba.out 1
   have BS:=bF Ba.out 2
   have BT:=cz0 Bc.out
   have BU:=cz1 Bc.out
   have BV:=cz2 Bc.out
   have BW:=bF Bc.out 0
   have BX:=bF Bc.out 1
   have BY:=bF Bc.out 2
   go_wp2_with (first|(go_at_call 35;(with_reducible refine (laws_qdLock.calls k t244 _ _ t245 _ _ t248 t253 _ _ t254 _ _ t257 true _ ?side1 ?side2 ?side3 ?side4 ?side5 ?side6 ?side7 ?side8 A20.out).mono ?_);(case side1=>refine (rR (e:=57) (base:=w.heap.size) (ok:=fun k_=>(True∧some k_≠(.slice Ao17 t254.length co17:Value).ownBlock)) (n:=t245.length) (c:=co11) ?_).2.2;exact (by (with_reducible repeat (first|apply rA|apply rN|apply rD));exact (rM (rF (p:=⟨Bb,2,none⟩) (rF (p:=⟨Bb,1,none⟩) (rF (p:=⟨Bb,0,none⟩) (rT Bo.out Bc.out (by decide)) (fun _ hk=>hk.2) (.int .i64 t253)) (fun _ hk=>hk.2) (.slice Ao17 t254.length co17)) (fun _ hk=>hk.2) (.slice Ao18 t257.length co18)) (fun _ h_=>h_.1))));(case side2=>exact (rR Bo.out).2.1);(case side3=>refine (rR (e:=3) (base:=w.heap.size) (ok:=fun k_=>(True∧some k_≠(.slice Ao18 t257.length co18:Value).ownBlock)) (n:=t248.length) (c:=co12) ?_).2.2;exact (by (with_reducible repeat (first|apply rA|apply rN|apply rD));exact (rM (rF (p:=⟨Bb,2,none⟩) (rF (p:=⟨Bb,1,none⟩) (rF (p:=⟨Bb,0,none⟩) (rT Bp.out Bc.out (by decide)) (fun _ hk=>hk.2) (.int .i64 t253)) (fun _ hk=>hk.2) (.slice Ao17 t254.length co17)) (fun _ hk=>hk.2) (.slice Ao18 t257.length co18)) (fun _ h_=>h_.1))));(case side4=>exact (rR Bp.out).2.1);(case side5=>refine (rR (e:=57) (base:=w.heap.size) (ok:=fun k_=>(True∧some k_≠(.slice Ao11 t245.length co11:Value).ownBlock)) (n:=t254.length) (c:=co17) ?_).2.2;exact (by (with_reducible repeat (first|apply rA|apply rN|apply rD));exact (rM (rF (p:=⟨Bb,2,none⟩) (rF (p:=⟨Bb,1,none⟩) (rF (p:=⟨Bb,0,none⟩) (rT Bu.out Bc.out (by decide)) (fun _ hk=>hk.2) (.int .i64 t253)) (fun _ hk=>hk.2) (.slice Ao17 t254.length co17)) (fun _ hk=>hk.2) (.slice Ao18 t257.length co18)) (fun _ h_=>h_.1))));(case side6=>exact (rR Bu.out).2.1);(case side7=>refine (rR (e:=3) (base:=w.heap.size) (ok:=fun k_=>(True∧some k_≠(.slice Ao12 t248.length co12:Value).ownBlock)) (n:=t257.length) (c:=co18) ?_).2.2;exact (by (with_reducible repeat (first|apply rA|apply rN|apply rD));exact (rM (rF (p:=⟨Bb,2,none⟩) (rF (p:=⟨Bb,1,none⟩) (rF (p:=⟨Bb,0,none⟩) (rT Bv.out Bc.out (by decide)) (fun _ hk=>hk.2) (.int .i64 t253)) (fun _ hk=>hk.2) (.slice Ao17 t254.length co17)) (fun _ hk=>hk.2) (.slice Ao18 t257.length co18)) (fun _ h_=>h_.1))));(case side8=>exact (rR Bv.out).2.1);rintro e w25 ⟨rfl,hb⟩;have n0_:=Am (rB (by (with_reducible repeat (first|apply rA|apply rN|apply rD));exact (rM (rF (p:=⟨Bb,2,none⟩) (rF (p:=⟨Bb,1,none⟩) (rF (p:=⟨Bb,0,none⟩) (rT Bo.out Bc.out (by decide)) (fun _ hk=>hk.2) (.int .i64 t253)) (fun _ hk=>hk.2) (.slice Ao17 t254.length co17)) (fun _ hk=>hk.2) (.slice Ao18 t257.length co18)) (fun _ h_=>h_.1))) hb);have n1_:=Am (rB (by (with_reducible repeat (first|apply rA|apply rN|apply rD));exact (rM (rF (p:=⟨Bb,2,none⟩) (rF (p:=⟨Bb,1,none⟩) (rF (p:=⟨Bb,0,none⟩) (rT Bp.out Bc.out (by decide)) (fun _ hk=>hk.2) (.int .i64 t253)) (fun _ hk=>hk.2) (.slice Ao17 t254.length co17)) (fun _ hk=>hk.2) (.slice Ao18 t257.length co18)) (fun _ h_=>h_.1))) hb);have n2_:=Am (rB (by (with_reducible repeat (first|apply rA|apply rN|apply rD));exact (rM (rF (p:=⟨Bb,2,none⟩) (rF (p:=⟨Bb,1,none⟩) (rF (p:=⟨Bb,0,none⟩) (rT Bu.out Bc.out (by decide)) (fun _ hk=>hk.2) (.int .i64 t253)) (fun _ hk=>hk.2) (.slice Ao17 t254.length co17)) (fun _ hk=>hk.2) (.slice Ao18 t257.length co18)) (fun _ h_=>h_.1))) hb);have n3_:=Am (rB (by (with_reducible repeat (first|apply rA|apply rN|apply rD));exact (rM (rF (p:=⟨Bb,2,none⟩) (rF (p:=⟨Bb,1,none⟩) (rF (p:=⟨Bb,0,none⟩) (rT Bv.out Bc.out (by decide)) (fun _ hk=>hk.2) (.int .i64 t253)) (fun _ hk=>hk.2) (.slice Ao17 t254.length co17)) (fun _ hk=>hk.2) (.slice Ao18 t257.length co18)) (fun _ h_=>h_.1))) hb);have n4_:=Am (bB (g:=Bh) (o:=.cells #[.int .i64 t244,.slice Ao11 t245.length co11,.slice Ao12 t248.length co12] 51 (0,0)) (by (with_reducible repeat (first|refine bN ?_ _|refine bD ?_|refine bA ?_ _|refine bE ?_ Bx.out _));exact Ba.out) hb);have n5_:=Am (bB (g:=Bb) (o:=.cells #[.int .i64 t253,.slice Ao17 t254.length co17,.slice Ao18 t257.length co18] 51 (0,0)) (by (with_reducible repeat (first|refine bN ?_ _|refine bD ?_|refine bA ?_ _));refine bT (cs:=#[.int .i64 t253,.slice Ao17 t254.length co17,.slice none 0 0]) ?_ 2 _ rfl;(with_reducible repeat (first|refine bN ?_ _|refine bD ?_|refine bA ?_ _));refine bT (cs:=#[.int .i64 t253,.slice none 0 0,.slice none 0 0]) ?_ 1 _ rfl;(with_reducible repeat (first|refine bN ?_ _|refine bD ?_|refine bA ?_ _));refine bT (cs:=#[.int .i64 0,.slice none 0 0,.slice none 0 0]) ?_ 0 _ rfl;(with_reducible repeat (first|refine bN ?_ _|refine bD ?_|refine bA ?_ _));exact Bc.out) hb);have n6_:=Am (bP (by repeat (first|(with_reducible first|exact HB.out|apply oA|apply pN|apply o1|refine bS ?_ Bj.out|refine bS ?_ Bl.out)|exact HB.out)) hb);clear Bo Bp Bu Bv Ba Bc HB;revert n0_ n1_ n2_ n3_ n4_ n5_ n6_;intro Bo Bp Bu Bv Ba Bc HB;(try clear hb);(try clear hb2);(try clear hk);(try clear hi)))
   go_meet
   case rel=>exact ⟨_,(!t251),(by first|rfl|(simp;done)|(simp [*];done)),H',⟨by first|omega|exact nR _⟩,⟨by (with_reducible repeat (first|apply rA|apply rN|apply rD));exact rM Bo.out (fun _ hk=>hk.2)⟩,⟨Kd.Q_of_R (by (with_reducible repeat (first|apply rA|apply rN|apply rD));exact rM Bp.out (fun _ hk=>hk.2))⟩,⟨by (with_reducible repeat (first|apply rA|apply rN|apply rD));exact rM Bu.out (fun _ hk=>hk.2)⟩,⟨Kd.Q_of_R (by (with_reducible repeat (first|apply rA|apply rN|apply rD));exact rM Bv.out (fun _ hk=>hk.2))⟩,⟨by (with_reducible repeat (first|refine bN ?_ _|refine bD ?_|refine bA ?_ _));exact Ba.out⟩,⟨by (with_reducible repeat (first|refine bN ?_ _|refine bD ?_|refine bA ?_ _));exact Bc.out⟩,⟨by repeat (first|(with_reducible first|exact HB.out|apply oA|apply pN|apply o1|refine bS ?_ Bj.out|refine bS ?_ Bl.out)|exact HB.out)⟩⟩
  replace c21:=Bool.eq_false_iff.mpr c21
  subst c21
  have H1:(laws_FnLockQuick.j0 k t243 t251 t260 true t244 t245 t248 t253 t254 t257)=some r:=by rw [if_neg (show ¬ (false=true) by decide)] at H;exact H
  clear H
  have H:=H1
  clear H1
  have H':=Am H
  clear H
  have DA:=Bx.out
  have DB:=Bz.out
  have BZ:=cz0 Ba.out
  have B0:=cz1 Ba.out
  have B1:=cz2 Ba.out
  have B2:=bF Ba.out 0
  have B3:=bF Ba.out 1
  have B4:=bF Ba.out 2
  have B5:=cz0 Bc.out
  have B6:=cz1 Bc.out
  have B7:=cz2 Bc.out
  have B9:=bF Bc.out 0
  have Da:=bF Bc.out 1
  have Db:=bF Bc.out 2
  go_wp2_with (first|(go_at_call 35;(with_reducible refine (laws_qdLock.calls k t244 _ _ t245 _ _ t248 t253 _ _ t254 _ _ t257 false _ ?side1 ?side2 ?side3 ?side4 ?side5 ?side6 ?side7 ?side8 A20.out).mono ?_);(case side1=>refine (rR (e:=57) (base:=w.heap.size) (ok:=fun k_=>(True∧some k_≠(.slice Ao17 t254.length co17:Value).ownBlock)) (n:=t245.length) (c:=co11) ?_).2.2;exact (by (with_reducible repeat (first|apply rA|apply rN|apply rD));exact (rM (rF (p:=⟨Bb,2,none⟩) (rF (p:=⟨Bb,1,none⟩) (rF (p:=⟨Bb,0,none⟩) (rT Bo.out Bc.out (by decide)) (fun _ hk=>hk.2) (.int .i64 t253)) (fun _ hk=>hk.2) (.slice Ao17 t254.length co17)) (fun _ hk=>hk.2) (.slice Ao18 t257.length co18)) (fun _ h_=>h_.1))));(case side2=>exact (rR Bo.out).2.1);(case side3=>refine (rR (e:=3) (base:=w.heap.size) (ok:=fun k_=>(True∧some k_≠(.slice Ao18 t257.length co18:Value).ownBlock)) (n:=t248.length) (c:=co12) ?_).2.2;exact (by (with_reducible repeat (first|apply rA|apply rN|apply rD));exact (rM (rF (p:=⟨Bb,2,none⟩) (rF (p:=⟨Bb,1,none⟩) (rF (p:=⟨Bb,0,none⟩) (rT Bp.out Bc.out (by decide)) (fun _ hk=>hk.2) (.int .i64 t253)) (fun _ hk=>hk.2) (.slice Ao17 t254.length co17)) (fun _ hk=>hk.2) (.slice Ao18 t257.length co18)) (fun _ h_=>h_.1))));(case side4=>exact (rR Bp.out).2.1);(case side5=>refine (rR (e:=57) (base:=w.heap.size) (ok:=fun k_=>(True∧some k_≠(.slice Ao11 t245.length co11:Value).ownBlock)) (n:=t254.length) (c:=co17) ?_).2.2;exact (by (with_reducible repeat (first|apply rA|apply rN|apply rD));exact (rM (rF (p:=⟨Bb,2,none⟩) (rF (p:=⟨Bb,1,none⟩) (rF (p:=⟨Bb,0,none⟩) (rT Bu.out Bc.out (by decide)) (fun _ hk=>hk.2) (.int .i64 t253)) (fun _ hk=>hk.2) (.slice Ao17 t254.length co17)) (fun _ hk=>hk.2) (.slice Ao18 t257.length co18)) (fun _ h_=>h_.1))));(case side6=>exact (rR Bu.out).2.1);(case side7=>refine (rR (e:=3) (base:=w.heap.size) (ok:=fun k_=>(True∧some k_≠(.slice Ao12 t248.length co12:Value).ownBlock)) (n:=t257.length) (c:=co18) ?_).2.2;exact (by (with_reducible repeat (first|apply rA|apply rN|apply rD));exact (rM (rF (p:=⟨Bb,2,none⟩) (rF (p:=⟨Bb,1,none⟩) (rF (p:=⟨Bb,0,none⟩) (rT Bv.out Bc.out (by decide)) (fun _ hk=>hk.2) (.int .i64 t253)) (fun _ hk=>hk.2) (.slice Ao17 t254.length co17)) (fun _ hk=>hk.2) (.slice Ao18 t257.length co18)) (fun _ h_=>h_.1))));(case side8=>exact (rR Bv.out).2.1);rintro e w29 ⟨rfl,hb⟩;have n0_:=Am (rB (by (with_reducible repeat (first|apply rA|apply rN|apply rD));exact (rM (rF (p:=⟨Bb,2,none⟩) (rF (p:=⟨Bb,1,none⟩) (rF (p:=⟨Bb,0,none⟩) (rT Bo.out Bc.out (by decide)) (fun _ hk=>hk.2) (.int .i64 t253)) (fun _ hk=>hk.2) (.slice Ao17 t254.length co17)) (fun _ hk=>hk.2) (.slice Ao18 t257.length co18)) (fun _ h_=>h_.1))) hb);have n1_:=Am (rB (by (with_reducible repeat (first|apply rA|apply rN|apply rD));exact (rM (rF (p:=⟨Bb,2,none⟩) (rF (p:=⟨Bb,1,none⟩) (rF (p:=⟨Bb,0,none⟩) (rT Bp.out Bc.out (by decide)) (fun _ hk=>hk.2) (.int .i64 t253)) (fun _ hk=>hk.2) (.slice Ao17 t254.length co17)) (fun _ hk=>hk.2) (.slice Ao18 t257.length co18)) (fun _ h_=>h_.1))) hb);have n2_:=Am (rB (by (with_reducible repeat (first|apply rA|apply rN|apply rD));exact (rM (rF (p:=⟨Bb,2,none⟩) (rF (p:=⟨Bb,1,none⟩) (rF (p:=⟨Bb,0,none⟩) (rT Bu.out Bc.out (by decide)) (fun _ hk=>hk.2) (.int .i64 t253)) (fun _ hk=>hk.2) (.slice Ao17 t254.length co17)) (fun _ hk=>hk.2) (.slice Ao18 t257.length co18)) (fun _ h_=>h_.1))) hb);have n3_:=Am (rB (by (with_reducible repeat (first|apply rA|apply rN|apply rD));exact (rM (rF (p:=⟨Bb,2,none⟩) (rF (p:=⟨Bb,1,none⟩) (rF (p:=⟨Bb,0,none⟩) (rT Bv.out Bc.out (by decide)) (fun _ hk=>hk.2) (.int .i64 t253)) (fun _ hk=>hk.2) (.slice Ao17 t254.length co17)) (fun _ hk=>hk.2) (.slice Ao18 t257.length co18)) (fun _ h_=>h_.1))) hb);have n4_:=Am (bB (g:=Bh) (o:=.cells #[.int .i64 t244,.slice Ao11 t245.length co11,.slice Ao12 t248.length co12] 51 (0,0)) (by (with_reducible repeat (first|refine bN ?_ _|refine bD ?_|refine bA ?_ _|refine bE ?_ Bx.out _));exact Ba.out) hb);have n5_:=Am (bB (g:=Bb) (o:=.cells #[.int .i64 t253,.slice Ao17 t254.length co17,.slice Ao18 t257.length co18] 51 (0,0)) (by (with_reducible repeat (first|refine bN ?_ _|refine bD ?_|refine bA ?_ _));refine bT (cs:=#[.int .i64 t253,.slice Ao17 t254.length co17,.slice none 0 0]) ?_ 2 _ rfl;(with_reducible repeat (first|refine bN ?_ _|refine bD ?_|refine bA ?_ _));refine bT (cs:=#[.int .i64 t253,.slice none 0 0,.slice none 0 0]) ?_ 1 _ rfl;(with_reducible repeat (first|refine bN ?_ _|refine bD ?_|refine bA ?_ _));refine bT (cs:=#[.int .i64 0,.slice none 0 0,.slice none 0 0]) ?_ 0 _ rfl;(with_reducible repeat (first|refine bN ?_ _|refine bD ?_|refine bA ?_ _));exact Bc.out) hb);have n6_:=Am (bP (by repeat (first|(with_reducible first|exact HB.out|apply oA|apply pN|apply o1|refine bS ?_ Bj.out|refine bS ?_ Bl.out)|exact HB.out)) hb);clear Bo Bp Bu Bv Ba Bc HB;revert n0_ n1_ n2_ n3_ n4_ n5_ n6_;intro Bo Bp Bu Bv Ba Bc HB;(try clear hb);(try clear hb2);(try clear hk);(try clear hi)))
  go_meet
  case rel=>exact ⟨_,(true),(by first|rfl|(simp;done)|(simp [*];done)),H',⟨by first|omega|exact nR _⟩,⟨by (with_reducible repeat (first|apply rA|apply rN|apply rD));exact rM Bo.out (fun _ hk=>hk.2)⟩,⟨Kd.Q_of_R (by (with_reducible repeat (first|apply rA|apply rN|apply rD));exact rM Bp.out (fun _ hk=>hk.2))⟩,⟨by (with_reducible repeat (first|apply rA|apply rN|apply rD));exact rM Bu.out (fun _ hk=>hk.2)⟩,⟨Kd.Q_of_R (by (with_reducible repeat (first|apply rA|apply rN|apply rD));exact rM Bv.out (fun _ hk=>hk.2))⟩,⟨by (with_reducible repeat (first|refine bN ?_ _|refine bD ?_|refine bA ?_ _));exact Ba.out⟩,⟨by (with_reducible repeat (first|refine bN ?_ _|refine bD ?_|refine bA ?_ _));exact Bc.out⟩,⟨by repeat (first|(with_reducible first|exact HB.out|apply oA|apply pN|apply o1|refine bS ?_ Bj.out|refine bS ?_ Bl.out)|exact HB.out)⟩⟩
 case rest =>
  clear HC6
  try clear c1
  try clear c2
  try clear c2b0
  try clear c2b1
  try clear p2
  try clear c3
  try clear c10
  try clear c15
  try clear c19
  try clear c19b0
  try clear c19b1
  try clear c19b2
  try clear c21
  try clear c22
  try clear c26
  try clear BB
  try clear BC
  try clear BD
  try clear BH
  try clear BI
  try clear BJ
  try clear BN
  try clear BO
  try clear BP
  try clear BT
  try clear BU
  try clear BV
  try clear BZ
  try clear B0
  try clear B1
  try clear B5
  try clear B6
  try clear B7
  try clear BE
  try clear BF
  try clear BG
  try clear BK
  try clear BL
  try clear BM
  try clear BQ
  try clear BR
  try clear BS
  try clear BW
  try clear BX
  try clear BY
  try clear B2
  try clear B3
  try clear B4
  try clear B9
  try clear Da
  try clear Db
  obtain ⟨kq,x41_5,rfl,HA,DI,Be,Bd,Bg,Bf,Ba,Bc,HB⟩:=hcut
  cases kq with
 |zero=>exact absurd HA.out (by simp [laws_FnLockQuick.j0])
 |succ kj5 =>
   have H:=HA.out
   clear HA
   simp only [laws_FnLockQuick.j0] at H
   by_cases c30:x41_5=true
   ·subst c30
    have H1:(if (t251 == t260)=true then ((laws_qdLock.f kj5 t244 t245 t248 t253 t254 t257).bind fun t263=>(some t263)) else (some false))=some r:=by rw [if_pos rfl] at H;exact H
    clear H
    have H:=H1
    clear H1
    by_cases c31:(t251 == t260)=true
    rotate_left
    ·rw [if_neg c31] at H
     have c31b0:(t251 == t260)=false:=by simpa using c31
     (try (have c31b1:decide (t251=t260)=false:=by simpa using c31))
     (try (have c31b2:(t251 == t260)=false:=by simpa using c31))
     (try (have c31b3:¬ (t251=t260):=by simpa using c31))
     clear c31
     exact absurd ((oJ H).trans hT_.out) (by decide)
    rw [if_pos c31] at H
    have c31b0:(t251 == t260)=true:=c31
    (try (have c31b1:decide (t251=t260)=true:=by simpa using c31))
    (try (have c31b2:(t251 == t260)=true:=by simpa using c31))
    clear c31
    replace H:=oC H
    obtain ⟨t263,A320,H⟩:=H
    replace H:(some t263)=some r:=H
    have A32:=Am A320
    clear A320
    obtain rfl:=oJ H
    have DC:=Bx.out
    have DD:=Bz.out
    have Dc:=cz0 Ba.out
    have Dd:=cz1 Ba.out
    have De:=cz2 Ba.out
    have Df:=bF Ba.out 0
    have Dg:=bF Ba.out 1
    have Dh:=bF Ba.out 2
    have Di:=cz0 Bc.out
    have Dj:=cz1 Bc.out
    have Dk:=cz2 Bc.out
    have Dl:=bF Bc.out 0
    have Dm:=bF Bc.out 1
    have Dn:=bF Bc.out 2
    go_wp2_with (first|(go_at_call 35;(with_reducible refine (laws_qdLock.calls kj5 t244 _ _ t245 _ _ t248 t253 _ _ t254 _ _ t257 t263 _ ?side1 ?side2 ?side3 ?side4 ?side5 ?side6 ?side7 ?side8 A32.out).mono ?_);(case side1=>exact cL (rR Be.out).2.2);(case side2=>exact (rR Be.out).2.1);(case side3=>exact cL (qR Bd.out).2.2);(case side4=>exact (qR Bd.out).2.1);(case side5=>exact cL (rR Bg.out).2.2);(case side6=>exact (rR Bg.out).2.1);(case side7=>exact cL (qR Bf.out).2.2);(case side8=>exact (qR Bf.out).2.1);rintro e w36 ⟨rfl,hb⟩;have n0_:=Am (rB (rL Be.out) hb);have n1_:=Am (Kd.Q_below (qL Bd.out) hb);have n2_:=Am (rB (rL Bg.out) hb);have n3_:=Am (Kd.Q_below (qL Bf.out) hb);have n4_:=Am (bX Ba.out hb);have n5_:=Am (bX Bc.out hb);have n6_:=Am (bP (by repeat (first|(with_reducible first|exact HB.out|apply oA|apply pN|apply o1|refine bS ?_ Bj.out|refine bS ?_ Bl.out)|exact HB.out)) hb);clear Be Bd Bg Bf Ba Bc HB;revert n0_ n1_ n2_ n3_ n4_ n5_ n6_;intro Be Bd Bg Bf Ba Bc HB;(try clear hb);(try clear hb2);(try clear hk);(try clear hi)))
    go_ret
    exact ⟨by first|rfl|(simp [errW_none,errW_some] <;> rfl)|(simp [*,errW_none,errW_some] <;> rfl),by repeat (first|(with_reducible first|exact HB.out|apply oA|apply pN|apply o1|refine bS ?_ Bj.out|refine bS ?_ Bl.out)|exact HB.out)⟩
   replace c30:=Bool.eq_false_iff.mpr c30
   subst c30
   have H1:(if 0≤(wrap64 (2 * t243)) then (if (wrap64 (2 * t243):Int).toNat≤35184372088832 then ((impl_LockRun.f kj5 t244 t245 t248 (List.replicate (wrap64 (2 * t243):Int).toNat 0)).bind fun bt267=>(if bt267.2.2.2=(wrap64 (2 * t243)) then (if bt267.1=0 then (if 0<(bt267.2.1.length:Int) then (some (((rd_T57 bt267.2.1 0).f0) == 0 && (((rd_T57 bt267.2.1 0).f1) == 0 && (((rd_T57 bt267.2.1 0).f2) == 0 && (!((rd_T57 bt267.2.1 0).f3)))))) else (none)) else (some false)) else (some false))) else (none)) else (none))=some r:=by rw [if_neg (show ¬ (false=true) by decide)] at H;exact H
   clear H
   have H:=H1
   clear H1
   obtain ⟨ji37,hji37⟩:∃ j_:Int,(wrap64 (2 * t243))=j_:=⟨_,rfl⟩
   replace H:(if 0≤(ji37) then (if (ji37:Int).toNat≤35184372088832 then ((impl_LockRun.f kj5 t244 t245 t248 (List.replicate (ji37:Int).toNat 0)).bind fun bt267=>(if bt267.2.2.2=(ji37) then (if bt267.1=0 then (if 0<(bt267.2.1.length:Int) then (some (((rd_T57 bt267.2.1 0).f0) == 0 && (((rd_T57 bt267.2.1 0).f1) == 0 && (((rd_T57 bt267.2.1 0).f2) == 0 && (!((rd_T57 bt267.2.1 0).f3)))))) else (none)) else (some false)) else (some false))) else (none)) else (none))=some r:=by first|(rw [hji37] at H;exact H)|(simp only [hji37] at H ⊢;exact H)
   have hji37w:(IntKind.i64.wrap (2 * t243))=ji37:=(i64_w _).trans hji37
   by_cases c38:0≤(ji37)
   rotate_left
   ·rw [if_neg c38] at H
    exact absurd H (by simp)

   rw [if_pos c38] at H
   have c38b0:=eq_true c38
   have c38b1:decide (0≤(ji37))=true:=dT c38
   clear c38
   by_cases c39:(ji37:Int).toNat≤35184372088832
   rotate_left
   ·rw [if_neg c39] at H
    exact absurd H (by simp)
   rw [if_pos c39] at H
   have c39b0:=eq_true c39
   have c39b1:decide ((ji37:Int).toNat≤35184372088832)=true:=dT c39
   clear c39
   obtain ⟨y264,hy264⟩:∃ y_:List Int,y_=(List.replicate (ji37:Int).toNat 0):=⟨_,rfl⟩
   replace H:((impl_LockRun.f kj5 t244 t245 t248 y264).bind fun bt267=>(if bt267.2.2.2=(ji37) then (if bt267.1=0 then (if 0<(bt267.2.1.length:Int) then (some (((rd_T57 bt267.2.1 0).f0) == 0 && (((rd_T57 bt267.2.1 0).f1) == 0 && (((rd_T57 bt267.2.1 0).f2) == 0 && (!((rd_T57 bt267.2.1 0).f3)))))) else (none)) else (some false)) else (some false)))=some r:=by first|(rw [hy264];with_reducible exact H)|(have H2_:=(Option.bind_some _ _).symm.trans H;rw [hy264];with_reducible exact H2_)|(have H2_:=(Option.bind_some _ _).symm.trans H;with_reducible exact H2_)|with_reducible exact H|(rw [hy264];exact H)|exact H
   have Ny264:=Am hy264
   clear hy264
   replace H:=oC H
   obtain ⟨⟨t267,t268,t271,t274⟩,A400,H⟩:=H
   replace H:(if t274=(ji37) then (if t267=0 then (if 0<(t268.length:Int) then (some (((rd_T57 t268 0).f0) == 0 && (((rd_T57 t268 0).f1) == 0 && (((rd_T57 t268 0).f2) == 0 && (!((rd_T57 t268 0).f3)))))) else (none)) else (some false)) else (some false))=some r:=H
   have A40:=Am A400
   clear A400
   by_cases c41:t274=(ji37)
   rotate_left
   ·rw [if_neg c41] at H
    have c41b0:(t274 == (ji37))=false:=beq_eq_false_iff_ne.mpr c41
    have c41b1:(t274 != (ji37))=true:=bne_iff_ne.mpr c41
    exact absurd ((oJ H).trans hT_.out) (by decide)
   rw [if_pos c41] at H
   have c41b0:(t274 == (ji37))=true:=beq_iff_eq.mpr c41
   have c41b1:(t274 != (ji37))=false:=bne_eq_false_iff_eq.mpr c41
   clear c41
   by_cases c42:t267=0
   rotate_left
   ·rw [if_neg c42] at H
    have c42b0:(t267 == 0)=false:=beq_eq_false_iff_ne.mpr c42
    have c42b1:(t267 != 0)=true:=bne_iff_ne.mpr c42
    exact absurd ((oJ H).trans hT_.out) (by decide)
   rw [if_pos c42] at H
   have c42b0:(t267 == 0)=true:=beq_iff_eq.mpr c42
   have c42b1:(t267 != 0)=false:=bne_eq_false_iff_eq.mpr c42
   clear c42
   by_cases c43:0<(t268.length:Int)
   rotate_left
   ·rw [if_neg c43] at H
    exact absurd H (by simp)
   rw [if_pos c43] at H
   have c43b0:decide (0<(t268.length:Int))=true:=dT c43
   have c43b1:decide (0<t268.length)=true:=dT (by omega)
   clear c43
   obtain rfl:=oJ H
   try go_wp2
   have n0_:=Am (rD Be.out)
   have n1_:=Am (Kd.Q_drew Bd.out)
   have n2_:=Am (rD Bg.out)
   have n3_:=Am (Kd.Q_drew Bf.out)
   have n4_:=Am (bD Ba.out)
   have n5_:=Am (bD Bc.out)
   have n6_:=Am (o1 HB.out)
   clear Be
   clear Bd
   clear Bg
   clear Bf
   clear Ba
   clear Bc
   clear HB
   have Be:=n0_
   have Bd:=n1_
   have Bg:=n2_
   have Bf:=n3_
   have Ba:=n4_
   have Bc:=n5_
   have HB:=n6_
   clear n0_ n1_ n2_ n3_ n4_ n5_ n6_
   refine start_ (n:=11) (S:=fun w'=>w'.cell? ⟨Bh,0,none⟩=some (.int .i64 t244)∧w'.cell? ⟨Bh,1,none⟩=some (.slice Ao11 t245.length co11)∧w'.cell? ⟨Bh,2,none⟩=some (.slice Ao12 t248.length co12)) (ds:=[]) z10q0 (by kernel_rfl) rfl rfl ⟨(bC Ba.out 0).trans rfl,(bC Ba.out 1).trans rfl,(bC Ba.out 2).trans rfl⟩ (fun hHeld=>?_);refine with_st laws_FnLockQuick.tab8 laws_FnLockQuick.bits8 (fun _ _ _ _ _ h=>h) (fun HT_=>?_)
   generalize wc.drew=w44 at Be Bd Bg Bf Ba Bc HB hHeld ⊢
   refine pS 1 52 z10q1 HT_ rfl rfl (by kernel_rfl) (by rfl) (by intro w';go_simp;with_reducible rfl) (by simp only [Act.put,lA,lZ,lS,iw,jw];rfl) ?_
   refine pS 2 53 z10q2 HT_ rfl rfl (by kernel_rfl) (by rfl) (by intro w';go_simp;with_reducible rfl) (by simp only [Act.put,lA,lZ,lS,iw,jw];rfl) ?_
   refine tS 0 51 z10q3 HT_ hHeld rfl rfl (by kernel_rfl) (by rfl) (by rintro w' ⟨s0,s1,s2⟩;go_simp;with_reducible rfl) (by simp only [Act.put,lA,lZ,lS,iw,jw];rfl) ?_
   refine join_ (σ:=Value × Value × Value × Nat) 2 z10q4 (fun s_=>[(54,s_.1),(55,.tuple #[.agg #[.int .i64 t267,s_.2.1,s_.2.2.1],.int .i64 t274]),(9,.pointer (some ⟨s_.2.2.2,0,none⟩)),(50,.tuple #[.agg #[.int .i64 t267,s_.2.1,s_.2.2.1],.int .i64 t274]),(56,.agg #[.int .i64 t267,s_.2.1,s_.2.2.1]),(57,.int .i64 t274)]) (fun s_ w'=>(w'.cell? ⟨Bh,0,none⟩=some (.int .i64 t244)∧w'.cell? ⟨Bh,1,none⟩=some (.slice Ao11 t245.length co11)∧w'.cell? ⟨Bh,2,none⟩=some (.slice Ao12 t248.length co12))∧(Kd.R (Kd.int .i64) 3 w' w.heap.size (fun k_=>some k_≠(s_.2.2.1:Value).ownBlock∧some k_≠(.slice Ao12 t248.length co12:Value).ownBlock∧some k_≠(.slice Ao18 t257.length co18:Value).ownBlock) s_.1 y264)∧(Kd.R k57 57 w' w.heap.size (fun k_=>some k_≠(.slice Ao11 t245.length co11:Value).ownBlock∧some k_≠(.slice Ao17 t254.length co17:Value).ownBlock) s_.2.1 t268)∧(Kd.Q (Kd.int .i64) 3 w' w.heap.size (fun k_=>some k_≠(s_.1:Value).ownBlock∧some k_≠(.slice Ao12 t248.length co12:Value).ownBlock∧some k_≠(.slice Ao18 t257.length co18:Value).ownBlock) s_.2.2.1 t271)∧(Kd.R k57 57 w' w.heap.size (fun k_=>some k_≠(s_.2.1:Value).ownBlock∧some k_≠(.slice Ao17 t254.length co17:Value).ownBlock) (.slice Ao11 t245.length co11) t245)∧(Kd.Q (Kd.int .i64) 3 w' w.heap.size (fun k_=>some k_≠(s_.1:Value).ownBlock∧some k_≠(s_.2.2.1:Value).ownBlock∧some k_≠(.slice Ao18 t257.length co18:Value).ownBlock) (.slice Ao12 t248.length co12) t248)∧(Kd.R k57 57 w' w.heap.size (fun k_=>some k_≠(s_.2.1:Value).ownBlock∧some k_≠(.slice Ao11 t245.length co11:Value).ownBlock) (.slice Ao17 t254.length co17) t254)∧(Kd.Q (Kd.int .i64) 3 w' w.heap.size (fun k_=>some k_≠(s_.1:Value).ownBlock∧some k_≠(s_.2.2.1:Value).ownBlock∧some k_≠(.slice Ao12 t248.length co12:Value).ownBlock) (.slice Ao18 t257.length co18) t257)∧(w'.heap[Bh]?=some (.cells #[.int .i64 t244,.slice Ao11 t245.length co11,.slice Ao12 t248.length co12] 51 (0,0)))∧(w'.heap[Bb]?=some (.cells #[.int .i64 t253,.slice Ao17 t254.length co17,.slice Ao18 t257.length co18] 51 (0,0)))∧(w'.heap[s_.2.2.2]?=some (.cells #[.int .i64 0,.slice none 0 0,.slice none 0 0] 51 (0,0)))∧(w.heap.size≤s_.2.2.2)∧(w.heap.size≤s_.2.2.2)∧(Bh≠s_.2.2.2)∧(s_.2.2.2≠Bh)∧(Bb≠s_.2.2.2)∧(s_.2.2.2≠Bb)∧(Below w.heap.size w w')) ?_ ?_
   rotate_left
   ·intro hCont
    refine two_ (i:=3) (j:=8) (Ni:=some 54) (Nj:=some 9) z10q5 z10q6 rfl rfl rfl rfl (two_of HT_.out (by kernel_rfl)) (by decide) (by decide) (fun K hK=>?_) (fun K hK=>?_)
    ·skip
     refine Kd.R_make_step (Kd.int .i64) _ 3 (by rfl) (N:=54) rfl 24 _ _ rfl ji37 rfl rfl Try.underlying24 (.int .i64 0) 8 info3 rfl (by decide) (by omega) 0 (ok:=fun _=>True) (okp:=fun _=>True) rfl (fun _ hk=>hk) trivial (oE (by first|(with_reducible assumption)|assumption)) (Nat.le_trans (Nat.mul_le_mul_right _ (oE (by first|(with_reducible assumption)|assumption):ji37.toNat≤35184372088832)) (by omega)) (bJ _ _) (nR _) ?_
     intro v265 w45 ho46 hb hg_ hnew_
     clear hg_ hnew_
     (first|rw [← Ny264.out] at ho46|(simp only [Int.reduceToNat] at ho46;rw [← Ny264.out] at ho46))
     have n0_:=Am (rB (rL Be.out) hb)
     have n1_:=Am (Kd.Q_elder' (qL Bd.out) (rZ ho46) hb)
     have n2_:=Am (rB (rL Bg.out) hb)
     have n3_:=Am (Kd.Q_elder' (qL Bf.out) (rZ ho46) hb)
     have n4_:=Am (rW (rQ (rQ ho46 (qI (qL Bd.out))) (qI (qL Bf.out))) (bZ (by repeat (first|(with_reducible first|exact HB.out|apply oA|apply pN|apply o1|refine bS ?_ Bj.out|refine bS ?_ Bl.out)|exact HB.out))))
     have n5_:=Am (bX Ba.out hb)
     have n6_:=Am (bX Bc.out hb)
     have n7_:=Am (bP (by repeat (first|(with_reducible first|exact HB.out|apply oA|apply pN|apply o1|refine bS ?_ Bj.out|refine bS ?_ Bl.out)|exact HB.out)) hb)
     clear Be
     clear Bd
     clear Bg
     clear Bf
     clear Ba
     clear Bc
     clear HB
     have Be:=n0_
     have Bd:=n1_
     have Bg:=n2_
     have Bf:=n3_
     have Bm:=n4_
     have Ba:=n5_
     have Bc:=n6_
     have HB:=n7_
     clear n0_ n1_ n2_ n3_ n4_ n5_ n6_ n7_
     clear hb ho46
     obtain ⟨Ao47,co47,eo47⟩:=rC Bm.out
     (first|subst eo47|(injection eo47 with f1_ f2_ f3_;have f4_:=f1_.symm;have f5_:=f3_.symm;clear f1_ f2_ f3_;subst f4_;subst f5_))
     refine hK.out _ _ ⟨(bC Ba.out 0).trans rfl,(bC Ba.out 1).trans rfl,(bC Ba.out 2).trans rfl⟩ (fun hHeld=>?_)
     clear hK K
     refine norm_ (by show Act.put _ (some 54) _=_;simp only [Act.put,lA,lZ,lS,iw,jw];rfl) ?_
     refine two_ (i:=4) (j:=8) (Ni:=some 55) (Nj:=some 9) z10q7 z10q8 rfl rfl rfl rfl (two_of HT_.out (by kernel_rfl)) (by decide) (by decide) (fun K hK=>?_) (fun K hK=>?_)
     ·skip
      refine goes_ Try.func37 (by kernel_rfl) rfl #[.agg #[.int .i64 t244,.slice Ao11 t245.length co11,.slice Ao12 t248.length co12],.slice Ao47 y264.length co47] (by rfl) rfl rfl (by (try simp only [lM,lC,lN]);first|done|rfl|(simp only [lD,lT];rfl)) ?_
      with_reducible refine (impl_LockRun.calls kj5 t244 _ _ t245 _ _ t248 _ _ y264 t267 t268 t271 t274 _ ?side1 ?side2 ?side3 ?side4 ?side5 ?side6 A40.out).mono ?_
      (case side1=>exact cL (rR Be.out).2.2)
      (case side2=>exact (rR Be.out).2.1)
      (case side3=>exact cL (qR Bd.out).2.2)
      (case side4=>exact (qR Bd.out).2.1)
      (case side5=>exact cL (rR Bm.out).2.2)
      (case side6=>exact (rR Bm.out).2.1)
      rintro e w48 ⟨v269,v272,rfl,ho0,ho1,hb⟩
      refine ⟨_,rfl,?_⟩
      have n0_:=Am (rX (rL Be.out) (rZ ho0) hb)
      have n1_:=Am (Kd.Q_elder' (qL Bd.out) (Kd.Q_base ho1) hb)
      have n2_:=Am (rX (rL Bg.out) (rZ ho0) hb)
      have n3_:=Am (Kd.Q_elder' (qL Bf.out) (Kd.Q_base ho1) hb)
      have n4_:=Am (rX (rL Bm.out) (Kd.Q_base ho1) hb)
      have n5_:=Am (rW (rQ (rQ ho0 (rI (rL Be.out))) (rI (rL Bg.out))) (bZ (by repeat (first|(with_reducible first|exact HB.out|apply oA|apply pN|apply o1|refine bS ?_ Bj.out|refine bS ?_ Bl.out)|exact HB.out))))
      have n6_:=Am (Kd.Q_lower (Kd.Q_new' (Kd.Q_new' (Kd.Q_new' ho1 (qI (qL Bd.out))) (qI (qL Bf.out))) (rI (rL Bm.out))) (bZ (by repeat (first|(with_reducible first|exact HB.out|apply oA|apply pN|apply o1|refine bS ?_ Bj.out|refine bS ?_ Bl.out)|exact HB.out))))
      have n7_:=Am (bX Ba.out hb)
      have n8_:=Am (bX Bc.out hb)
      have n9_:=Am (bP (by repeat (first|(with_reducible first|exact HB.out|apply oA|apply pN|apply o1|refine bS ?_ Bj.out|refine bS ?_ Bl.out)|exact HB.out)) hb)
      clear Be
      clear Bd
      clear Bg
      clear Bf
      clear Bm
      clear Ba
      clear Bc
      clear HB
      have Be:=n0_
      have Bd:=n1_
      have Bg:=n2_
      have Bf:=n3_
      have Bm:=n4_
      have Bw:=n5_
      have By:=n6_
      have Ba:=n7_
      have Bc:=n8_
      have HB:=n9_
      clear n0_ n1_ n2_ n3_ n4_ n5_ n6_ n7_ n8_ n9_
      (try clear hb)
      (try clear hb2)
      (try clear hk)
      (try clear hi)
      (try clear ho0)
      (try clear ho1)
      refine hK.out _ _ ⟨(bC Ba.out 0).trans rfl,(bC Ba.out 1).trans rfl,(bC Ba.out 2).trans rfl⟩ (fun hHeld=>?_)
      clear hK K
      refine norm_ (by show Act.put _ (some 55) _=_;simp only [Act.put,lA,lZ,lS,iw,jw];rfl) ?_
      refine pS 5 50 z10q9 HT_ rfl rfl (by kernel_rfl) (by rfl) (by intro w';go_simp;with_reducible rfl) (by simp only [Act.put,lA,lZ,lS,iw,jw];rfl) ?_
      refine pS 6 56 z10q10 HT_ rfl rfl (by kernel_rfl) (by rfl) (by intro w';go_simp;with_reducible rfl) (by simp only [Act.put,lA,lZ,lS,iw,jw];rfl) ?_
      refine pS 7 57 z10q11 HT_ rfl rfl (by kernel_rfl) (by rfl) (by intro w';go_simp;with_reducible rfl) (by simp only [Act.put,lA,lZ,lS,iw,jw];rfl) ?_
      refine oS 8 9 z10q4 HT_ rfl rfl (by kernel_rfl) (by decide) (fun K hK=>?_)
      refine box_step ?hg (N:=9) ?hd (cs:=#[.int .i64 0,.slice none 0 0,.slice none 0 0]) (t:=51) ?hr ?_;(case hd=>rfl);(case hg=>rfl);(case hr=>first|(go_simp;done)|(go_simp;rfl))
      intro Bi hg w49 hbox hb
      have n0_:=Am (rB (rL Be.out) hb)
      have n1_:=Am (Kd.Q_below (qL Bd.out) hb)
      have n2_:=Am (rB (rL Bg.out) hb)
      have n3_:=Am (Kd.Q_below (qL Bf.out) hb)
      have n4_:=Am (rB (rL Bm.out) hb)
      have n5_:=Am (rB (rL Bw.out) hb)
      have n6_:=Am (Kd.Q_below (qL By.out) hb)
      have n7_:=Am (bX Ba.out hb)
      have n8_:=Am (bX Bc.out hb)
      have n9_:=Am (bP (by repeat (first|(with_reducible first|exact HB.out|apply oA|apply pN|apply o1|refine bS ?_ Bj.out|refine bS ?_ Bl.out)|exact HB.out)) hb)
      have n10_:=Am (hbox)
      have n11_:=Am ((by rw [hg];exact (bZ (by repeat (first|(with_reducible first|exact HB.out|apply oA|apply pN|apply o1|refine bS ?_ Bj.out|refine bS ?_ Bl.out)|exact HB.out))):w.heap.size≤Bi))
      have n12_:=Am ((by rw [hg];exact (bZ (by repeat (first|(with_reducible first|exact HB.out|apply oA|apply pN|apply o1|refine bS ?_ Bj.out|refine bS ?_ Bl.out)|exact HB.out))):w.heap.size≤Bi))
      have n13_:=Am ((nL Ba.out hg))
      have n14_:=Am ((nG Ba.out hg))
      have n15_:=Am ((nL Bc.out hg))
      have n16_:=Am ((nG Bc.out hg))
      clear Be
      clear Bd
      clear Bg
      clear Bf
      clear Bm
      clear Bw
      clear By
      clear Ba
      clear Bc
      clear HB
      have Be:=n0_
      have Bd:=n1_
      have Bg:=n2_
      have Bf:=n3_
      have Bm:=n4_
      have Bw:=n5_
      have By:=n6_
      have Ba:=n7_
      have Bc:=n8_
      have HB:=n9_
      have Bn:=n10_
      have BA:=n11_
      have Bt:=n12_
      have Bk:=n13_
      have Bq:=n14_
      have Br:=n15_
      have Bs:=n16_
      clear n0_ n1_ n2_ n3_ n4_ n5_ n6_ n7_ n8_ n9_ n10_ n11_ n12_ n13_ n14_ n15_ n16_
      clear hb hbox hg
      refine hK.out _ _ ⟨(bC Ba.out 0).trans rfl,(bC Ba.out 1).trans rfl,(bC Ba.out 2).trans rfl⟩ (fun hHeld=>?_)
      clear hK K
      refine norm_ (by show Act.put _ (some 9) _=_;simp only [Act.put,lA,lZ,lS,iw,jw];rfl) ?_
      exact norm_ (by simp only [putAll,Act.put,lA,lZ,lS]) (hCont (.slice Ao47 y264.length co47,v269,v272,Bi) _ ⟨hHeld,(by (with_reducible repeat (first|apply rA|apply rN|apply rD));exact rM Bm.out (fun _ hk=>⟨hk.2,⟨hk.1.1.2,hk.1.2⟩⟩)),(by (with_reducible repeat (first|apply rA|apply rN|apply rD));exact rM Bw.out (fun _ hk=>⟨hk.1.2,hk.2⟩)),(by (with_reducible repeat (first|apply Kd.Q_alloc|apply Kd.Q_drewN|apply Kd.Q_drew));exact qM By.out (fun _ hk=>⟨hk.2,⟨hk.1.1.2,hk.1.2⟩⟩)),(by (with_reducible repeat (first|apply rA|apply rN|apply rD));exact rM Be.out (fun _ hk=>⟨hk.2,hk.1⟩)),(by (with_reducible repeat (first|apply Kd.Q_alloc|apply Kd.Q_drewN|apply Kd.Q_drew));exact qM Bd.out (fun _ hk=>⟨hk.1.2,⟨hk.2,hk.1.1⟩⟩)),(by (with_reducible repeat (first|apply rA|apply rN|apply rD));exact rM Bg.out (fun _ hk=>⟨hk.2,hk.1⟩)),(by (with_reducible repeat (first|apply Kd.Q_alloc|apply Kd.Q_drewN|apply Kd.Q_drew));exact qM Bf.out (fun _ hk=>⟨hk.1.2,⟨hk.2,hk.1.1⟩⟩)),(bL Ba.out),(bL Bc.out),(bL Bn.out),BA.out,Bt.out,Bk.out,Bq.out,Br.out,Bs.out,(by repeat (first|(with_reducible first|exact HB.out|apply oA|apply pN|apply o1|refine bS ?_ Bj.out|refine bS ?_ Bl.out|refine bS ?_ Bt.out)|exact HB.out))⟩)
     ·skip
      refine box_step ?hg (N:=9) ?hd (cs:=#[.int .i64 0,.slice none 0 0,.slice none 0 0]) (t:=51) ?hr ?_;(case hd=>rfl);(case hg=>rfl);(case hr=>first|(go_simp;done)|(go_simp;rfl))
      intro Bi hg w47 hbox hb
      have n0_:=Am (rB (rL Be.out) hb)
      have n1_:=Am (Kd.Q_below (qL Bd.out) hb)
      have n2_:=Am (rB (rL Bg.out) hb)
      have n3_:=Am (Kd.Q_below (qL Bf.out) hb)
      have n4_:=Am (rB (rL Bm.out) hb)
      have n5_:=Am (bX Ba.out hb)
      have n6_:=Am (bX Bc.out hb)
      have n7_:=Am (bP (by repeat (first|(with_reducible first|exact HB.out|apply oA|apply pN|apply o1|refine bS ?_ Bj.out|refine bS ?_ Bl.out)|exact HB.out)) hb)
      have n8_:=Am (hbox)
      have n9_:=Am ((by rw [hg];exact (bZ (by repeat (first|(with_reducible first|exact HB.out|apply oA|apply pN|apply o1|refine bS ?_ Bj.out|refine bS ?_ Bl.out)|exact HB.out))):w.heap.size≤Bi))
      have n10_:=Am ((by rw [hg];exact (bZ (by repeat (first|(with_reducible first|exact HB.out|apply oA|apply pN|apply o1|refine bS ?_ Bj.out|refine bS ?_ Bl.out)|exact HB.out))):w.heap.size≤Bi))
      have n11_:=Am ((nL Ba.out hg))
      have n12_:=Am ((nG Ba.out hg))
      have n13_:=Am ((nL Bc.out hg))
      have n14_:=Am ((nG Bc.out hg))
      clear Be
      clear Bd
      clear Bg
      clear Bf
      clear Bm
      clear Ba
      clear Bc
      clear HB
      have Be:=n0_
      have Bd:=n1_
      have Bg:=n2_
      have Bf:=n3_
      have Bm:=n4_
      have Ba:=n5_
      have Bc:=n6_
      have HB:=n7_
      have Bn:=n8_
      have BA:=n9_
      have Bt:=n10_
      have Bk:=n11_
      have Bq:=n12_
      have Br:=n13_
      have Bs:=n14_
      clear n0_ n1_ n2_ n3_ n4_ n5_ n6_ n7_ n8_ n9_ n10_ n11_ n12_ n13_ n14_
      clear hb hbox hg
      obtain ⟨Ao48,co48,eo48⟩:=rC Bm.out
      (first|subst eo48|(injection eo48 with f1_ f2_ f3_;have f4_:=f1_.symm;have f5_:=f3_.symm;clear f1_ f2_ f3_;subst f4_;subst f5_))
      refine hK.out _ _ ⟨(bC Ba.out 0).trans rfl,(bC Ba.out 1).trans rfl,(bC Ba.out 2).trans rfl⟩ (fun hHeld=>?_)
      clear hK K
      refine norm_ (by show Act.put _ (some 9) _=_;simp only [Act.put,lA,lZ,lS,iw,jw];rfl) ?_
      refine oS 4 55 z10q12 HT_ rfl rfl (by kernel_rfl) (by decide) (fun K hK=>?_)
      refine goes_ Try.func37 (by kernel_rfl) rfl #[.agg #[.int .i64 t244,.slice Ao11 t245.length co11,.slice Ao12 t248.length co12],.slice Ao48 y264.length co48] (by rfl) rfl rfl (by (try simp only [lM,lC,lN]);first|done|rfl|(simp only [lD,lT];rfl)) ?_
      with_reducible refine (impl_LockRun.calls kj5 t244 _ _ t245 _ _ t248 _ _ y264 t267 t268 t271 t274 _ ?side1 ?side2 ?side3 ?side4 ?side5 ?side6 A40.out).mono ?_
      (case side1=>exact cL (rR Be.out).2.2)
      (case side2=>exact (rR Be.out).2.1)
      (case side3=>exact cL (qR Bd.out).2.2)
      (case side4=>exact (qR Bd.out).2.1)
      (case side5=>exact cL (rR Bm.out).2.2)
      (case side6=>exact (rR Bm.out).2.1)
      rintro e w49 ⟨v269,v272,rfl,ho0,ho1,hb⟩
      refine ⟨_,rfl,?_⟩
      have n0_:=Am (rX (rL Be.out) (rZ ho0) hb)
      have n1_:=Am (Kd.Q_elder' (qL Bd.out) (Kd.Q_base ho1) hb)
      have n2_:=Am (rX (rL Bg.out) (rZ ho0) hb)
      have n3_:=Am (Kd.Q_elder' (qL Bf.out) (Kd.Q_base ho1) hb)
      have n4_:=Am (rX (rL Bm.out) (Kd.Q_base ho1) hb)
      have n5_:=Am (rW (rQ (rQ ho0 (rI (rL Be.out))) (rI (rL Bg.out))) (bZ (by repeat (first|(with_reducible first|exact HB.out|apply oA|apply pN|apply o1|refine bS ?_ Bj.out|refine bS ?_ Bl.out|refine bS ?_ Bt.out)|exact HB.out))))
      have n6_:=Am (Kd.Q_lower (Kd.Q_new' (Kd.Q_new' (Kd.Q_new' ho1 (qI (qL Bd.out))) (qI (qL Bf.out))) (rI (rL Bm.out))) (bZ (by repeat (first|(with_reducible first|exact HB.out|apply oA|apply pN|apply o1|refine bS ?_ Bj.out|refine bS ?_ Bl.out|refine bS ?_ Bt.out)|exact HB.out))))
      have n7_:=Am (bX Ba.out hb)
      have n8_:=Am (bX Bc.out hb)
      have n9_:=Am (bX Bn.out hb)
      have n10_:=Am (bP (by repeat (first|(with_reducible first|exact HB.out|apply oA|apply pN|apply o1|refine bS ?_ Bj.out|refine bS ?_ Bl.out|refine bS ?_ Bt.out)|exact HB.out)) hb)
      clear Be
      clear Bd
      clear Bg
      clear Bf
      clear Bm
      clear Ba
      clear Bc
      clear Bn
      clear HB
      have Be:=n0_
      have Bd:=n1_
      have Bg:=n2_
      have Bf:=n3_
      have Bm:=n4_
      have Bw:=n5_
      have By:=n6_
      have Ba:=n7_
      have Bc:=n8_
      have Bn:=n9_
      have HB:=n10_
      clear n0_ n1_ n2_ n3_ n4_ n5_ n6_ n7_ n8_ n9_ n10_
      (try clear hb)
      (try clear hb2)
      (try clear hk)
      (try clear hi)
      (try clear ho0)
      (try clear ho1)
      refine hK.out _ _ ⟨(bC Ba.out 0).trans rfl,(bC Ba.out 1).trans rfl,(bC Ba.out 2).trans rfl⟩ (fun hHeld=>?_)
      clear hK K
      refine norm_ (by show Act.put _ (some 55) _=_;simp only [Act.put,lA,lZ,lS,iw,jw];rfl) ?_
      refine pS 5 50 z10q13 HT_ rfl rfl (by kernel_rfl) (by rfl) (by intro w';go_simp;with_reducible rfl) (by simp only [Act.put,lA,lZ,lS,iw,jw];rfl) ?_
      refine pS 6 56 z10q14 HT_ rfl rfl (by kernel_rfl) (by rfl) (by intro w';go_simp;with_reducible rfl) (by simp only [Act.put,lA,lZ,lS,iw,jw];rfl) ?_
      refine pS 7 57 z10q4 HT_ rfl rfl (by kernel_rfl) (by rfl) (by intro w';go_simp;with_reducible rfl) (by simp only [Act.put,lA,lZ,lS,iw,jw];rfl) ?_
      exact norm_ (by simp only [putAll,Act.put,lA,lZ,lS]) (hCont (.slice Ao48 y264.length co48,v269,v272,Bi) _ ⟨hHeld,(by (with_reducible repeat (first|apply rA|apply rN|apply rD));exact rM Bm.out (fun _ hk=>⟨hk.2,⟨hk.1.1.2,hk.1.2⟩⟩)),(by (with_reducible repeat (first|apply rA|apply rN|apply rD));exact rM Bw.out (fun _ hk=>⟨hk.1.2,hk.2⟩)),(by (with_reducible repeat (first|apply Kd.Q_alloc|apply Kd.Q_drewN|apply Kd.Q_drew));exact qM By.out (fun _ hk=>⟨hk.2,⟨hk.1.1.2,hk.1.2⟩⟩)),(by (with_reducible repeat (first|apply rA|apply rN|apply rD));exact rM Be.out (fun _ hk=>⟨hk.2,hk.1⟩)),(by (with_reducible repeat (first|apply Kd.Q_alloc|apply Kd.Q_drewN|apply Kd.Q_drew));exact qM Bd.out (fun _ hk=>⟨hk.1.2,⟨hk.2,hk.1.1⟩⟩)),(by (with_reducible repeat (first|apply rA|apply rN|apply rD));exact rM Bg.out (fun _ hk=>⟨hk.2,hk.1⟩)),(by (with_reducible repeat (first|apply Kd.Q_alloc|apply Kd.Q_drewN|apply Kd.Q_drew));exact qM Bf.out (fun _ hk=>⟨hk.1.2,⟨hk.2,hk.1.1⟩⟩)),(bL Ba.out),(bL Bc.out),(bL Bn.out),BA.out,Bt.out,Bk.out,Bq.out,Br.out,Bs.out,(by repeat (first|(with_reducible first|exact HB.out|apply oA|apply pN|apply o1|refine bS ?_ Bj.out|refine bS ?_ Bl.out|refine bS ?_ Bt.out)|exact HB.out))⟩)
    ·skip
     refine box_step ?hg (N:=9) ?hd (cs:=#[.int .i64 0,.slice none 0 0,.slice none 0 0]) (t:=51) ?hr ?_;(case hd=>rfl);(case hg=>rfl);(case hr=>first|(go_simp;done)|(go_simp;rfl))
     intro Bi hg w45 hbox hb
     have n0_:=Am (rB (rL Be.out) hb)
     have n1_:=Am (Kd.Q_below (qL Bd.out) hb)
     have n2_:=Am (rB (rL Bg.out) hb)
     have n3_:=Am (Kd.Q_below (qL Bf.out) hb)
     have n4_:=Am (bX Ba.out hb)
     have n5_:=Am (bX Bc.out hb)
     have n6_:=Am (bP (by repeat (first|(with_reducible first|exact HB.out|apply oA|apply pN|apply o1|refine bS ?_ Bj.out|refine bS ?_ Bl.out)|exact HB.out)) hb)
     have n7_:=Am (hbox)
     have n8_:=Am ((by rw [hg];exact (bZ (by repeat (first|(with_reducible first|exact HB.out|apply oA|apply pN|apply o1|refine bS ?_ Bj.out|refine bS ?_ Bl.out)|exact HB.out))):w.heap.size≤Bi))
     have n9_:=Am ((by rw [hg];exact (bZ (by repeat (first|(with_reducible first|exact HB.out|apply oA|apply pN|apply o1|refine bS ?_ Bj.out|refine bS ?_ Bl.out)|exact HB.out))):w.heap.size≤Bi))
     have n10_:=Am ((nL Ba.out hg))
     have n11_:=Am ((nG Ba.out hg))
     have n12_:=Am ((nL Bc.out hg))
     have n13_:=Am ((nG Bc.out hg))
     clear Be
     clear Bd
     clear Bg
     clear Bf
     clear Ba
     clear Bc
     clear HB
     have Be:=n0_
     have Bd:=n1_
     have Bg:=n2_
     have Bf:=n3_
     have Ba:=n4_
     have Bc:=n5_
     have HB:=n6_
     have Bn:=n7_
     have BA:=n8_
     have Bt:=n9_
     have Bk:=n10_
     have Bq:=n11_
     have Br:=n12_
     have Bs:=n13_
     clear n0_ n1_ n2_ n3_ n4_ n5_ n6_ n7_ n8_ n9_ n10_ n11_ n12_ n13_
     clear hb hbox hg
     refine hK.out _ _ ⟨(bC Ba.out 0).trans rfl,(bC Ba.out 1).trans rfl,(bC Ba.out 2).trans rfl⟩ (fun hHeld=>?_)
     clear hK K
     refine norm_ (by show Act.put _ (some 9) _=_;simp only [Act.put,lA,lZ,lS,iw,jw];rfl) ?_
     refine oS 3 54 z10q8 HT_ rfl rfl (by kernel_rfl) (by decide) (fun K hK=>?_)
     refine Kd.R_make_step (Kd.int .i64) _ 3 (by rfl) (N:=54) rfl 24 _ _ rfl ji37 rfl rfl Try.underlying24 (.int .i64 0) 8 info3 rfl (by decide) (by omega) 0 (ok:=fun _=>True) (okp:=fun _=>True) rfl (fun _ hk=>hk) trivial (oE (by first|(with_reducible assumption)|assumption)) (Nat.le_trans (Nat.mul_le_mul_right _ (oE (by first|(with_reducible assumption)|assumption):ji37.toNat≤35184372088832)) (by omega)) (bJ _ _) (nR _) ?_
     intro v265 w46 ho47 hb hg_ hnew_
     clear hg_ hnew_
     (first|rw [← Ny264.out] at ho47|(simp only [Int.reduceToNat] at ho47;rw [← Ny264.out] at ho47))
     have n0_:=Am (rB (rL Be.out) hb)
     have n1_:=Am (Kd.Q_elder' (qL Bd.out) (rZ ho47) hb)
     have n2_:=Am (rB (rL Bg.out) hb)
     have n3_:=Am (Kd.Q_elder' (qL Bf.out) (rZ ho47) hb)
     have n4_:=Am (rW (rQ (rQ ho47 (qI (qL Bd.out))) (qI (qL Bf.out))) (bZ (by repeat (first|(with_reducible first|exact HB.out|apply oA|apply pN|apply o1|refine bS ?_ Bj.out|refine bS ?_ Bl.out|refine bS ?_ Bt.out)|exact HB.out))))
     have n5_:=Am (bX Ba.out hb)
     have n6_:=Am (bX Bc.out hb)
     have n7_:=Am (bX Bn.out hb)
     have n8_:=Am (bP (by repeat (first|(with_reducible first|exact HB.out|apply oA|apply pN|apply o1|refine bS ?_ Bj.out|refine bS ?_ Bl.out|refine bS ?_ Bt.out)|exact HB.out)) hb)
     clear Be
     clear Bd
     clear Bg
     clear Bf
     clear Ba
     clear Bc
     clear Bn
     clear HB
     have Be:=n0_
     have Bd:=n1_
     have Bg:=n2_
     have Bf:=n3_
     have Bm:=n4_
     have Ba:=n5_
     have Bc:=n6_
     have Bn:=n7_
     have HB:=n8_
     clear n0_ n1_ n2_ n3_ n4_ n5_ n6_ n7_ n8_
     clear hb ho47
     obtain ⟨Ao48,co48,eo48⟩:=rC Bm.out
     (first|subst eo48|(injection eo48 with f1_ f2_ f3_;have f4_:=f1_.symm;have f5_:=f3_.symm;clear f1_ f2_ f3_;subst f4_;subst f5_))
     refine hK.out _ _ ⟨(bC Ba.out 0).trans rfl,(bC Ba.out 1).trans rfl,(bC Ba.out 2).trans rfl⟩ (fun hHeld=>?_)
     clear hK K
     refine norm_ (by show Act.put _ (some 54) _=_;simp only [Act.put,lA,lZ,lS,iw,jw];rfl) ?_
     refine oS 4 55 z10q12 HT_ rfl rfl (by kernel_rfl) (by decide) (fun K hK=>?_)
     refine goes_ Try.func37 (by kernel_rfl) rfl #[.agg #[.int .i64 t244,.slice Ao11 t245.length co11,.slice Ao12 t248.length co12],.slice Ao48 y264.length co48] (by rfl) rfl rfl (by (try simp only [lM,lC,lN]);first|done|rfl|(simp only [lD,lT];rfl)) ?_
     with_reducible refine (impl_LockRun.calls kj5 t244 _ _ t245 _ _ t248 _ _ y264 t267 t268 t271 t274 _ ?side1 ?side2 ?side3 ?side4 ?side5 ?side6 A40.out).mono ?_
     (case side1=>exact cL (rR Be.out).2.2)
     (case side2=>exact (rR Be.out).2.1)
     (case side3=>exact cL (qR Bd.out).2.2)
     (case side4=>exact (qR Bd.out).2.1)
     (case side5=>exact cL (rR Bm.out).2.2)
     (case side6=>exact (rR Bm.out).2.1)
     rintro e w49 ⟨v269,v272,rfl,ho0,ho1,hb⟩
     refine ⟨_,rfl,?_⟩
     have n0_:=Am (rX (rL Be.out) (rZ ho0) hb)
     have n1_:=Am (Kd.Q_elder' (qL Bd.out) (Kd.Q_base ho1) hb)
     have n2_:=Am (rX (rL Bg.out) (rZ ho0) hb)
     have n3_:=Am (Kd.Q_elder' (qL Bf.out) (Kd.Q_base ho1) hb)
     have n4_:=Am (rX (rL Bm.out) (Kd.Q_base ho1) hb)
     have n5_:=Am (rW (rQ (rQ ho0 (rI (rL Be.out))) (rI (rL Bg.out))) (bZ (by repeat (first|(with_reducible first|exact HB.out|apply oA|apply pN|apply o1|refine bS ?_ Bj.out|refine bS ?_ Bl.out|refine bS ?_ Bt.out)|exact HB.out))))
     have n6_:=Am (Kd.Q_lower (Kd.Q_new' (Kd.Q_new' (Kd.Q_new' ho1 (qI (qL Bd.out))) (qI (qL Bf.out))) (rI (rL Bm.out))) (bZ (by repeat (first|(with_reducible first|exact HB.out|apply oA|apply pN|apply o1|refine bS ?_ Bj.out|refine bS ?_ Bl.out|refine bS ?_ Bt.out)|exact HB.out))))
     have n7_:=Am (bX Ba.out hb)
     have n8_:=Am (bX Bc.out hb)
     have n9_:=Am (bX Bn.out hb)
     have n10_:=Am (bP (by repeat (first|(with_reducible first|exact HB.out|apply oA|apply pN|apply o1|refine bS ?_ Bj.out|refine bS ?_ Bl.out|refine bS ?_ Bt.out)|exact HB.out)) hb)
     clear Be
     clear Bd
     clear Bg
     clear Bf
     clear Bm
     clear Ba
     clear Bc
     clear Bn
     clear HB
     have Be:=n0_
     have Bd:=n1_
     have Bg:=n2_
     have Bf:=n3_
     have Bm:=n4_
     have Bw:=n5_
     have By:=n6_
     have Ba:=n7_
     have Bc:=n8_
     have Bn:=n9_
     have HB:=n10_
     clear n0_ n1_ n2_ n3_ n4_ n5_ n6_ n7_ n8_ n9_ n10_
     (try clear hb)
     (try clear hb2)
     (try clear hk)
     (try clear hi)
     (try clear ho0)
     (try clear ho1)
     refine hK.out _ _ ⟨(bC Ba.out 0).trans rfl,(bC Ba.out 1).trans rfl,(bC Ba.out 2).trans rfl⟩ (fun hHeld=>?_)
     clear hK K
     refine norm_ (by show Act.put _ (some 55) _=_;simp only [Act.put,lA,lZ,lS,iw,jw];rfl) ?_
     refine pS 5 50 z10q13 HT_ rfl rfl (by kernel_rfl) (by rfl) (by intro w';go_simp;with_reducible rfl) (by simp only [Act.put,lA,lZ,lS,iw,jw];rfl) ?_
     refine pS 6 56 z10q14 HT_ rfl rfl (by kernel_rfl) (by rfl) (by intro w';go_simp;with_reducible rfl) (by simp only [Act.put,lA,lZ,lS,iw,jw];rfl) ?_
     refine pS 7 57 z10q4 HT_ rfl rfl (by kernel_rfl) (by rfl) (by intro w';go_simp;with_reducible rfl) (by simp only [Act.put,lA,lZ,lS,iw,jw];rfl) ?_
     exact norm_ (by simp only [putAll,Act.put,lA,lZ,lS]) (hCont (.slice Ao48 y264.length co48,v269,v272,Bi) _ ⟨hHeld,(by (with_reducible repeat (first|apply rA|apply rN|apply rD));exact rM Bm.out (fun _ hk=>⟨hk.2,⟨hk.1.1.2,hk.1.2⟩⟩)),(by (with_reducible repeat (first|apply rA|apply rN|apply rD));exact rM Bw.out (fun _ hk=>⟨hk.1.2,hk.2⟩)),(by (with_reducible repeat (first|apply Kd.Q_alloc|apply Kd.Q_drewN|apply Kd.Q_drew));exact qM By.out (fun _ hk=>⟨hk.2,⟨hk.1.1.2,hk.1.2⟩⟩)),(by (with_reducible repeat (first|apply rA|apply rN|apply rD));exact rM Be.out (fun _ hk=>⟨hk.2,hk.1⟩)),(by (with_reducible repeat (first|apply Kd.Q_alloc|apply Kd.Q_drewN|apply Kd.Q_drew));exact qM Bd.out (fun _ hk=>⟨hk.1.2,⟨hk.2,hk.1.1⟩⟩)),(by (with_reducible repeat (first|apply rA|apply rN|apply rD));exact rM Bg.out (fun _ hk=>⟨hk.2,hk.1⟩)),(by (with_reducible repeat (first|apply Kd.Q_alloc|apply Kd.Q_drewN|apply Kd.Q_drew));exact qM Bf.out (fun _ hk=>⟨hk.1.2,⟨hk.2,hk.1.1⟩⟩)),(bL Ba.out),(bL Bc.out),(bL Bn.out),BA.out,Bt.out,Bk.out,Bq.out,Br.out,Bs.out,(by repeat (first|(with_reducible first|exact HB.out|apply oA|apply pN|apply o1|refine bS ?_ Bj.out|refine bS ?_ Bl.out|refine bS ?_ Bt.out)|exact HB.out))⟩)
   rintro ⟨v265,v269,v272,Bi⟩ w50 ⟨hS_,h0_,h1_,h2_,h3_,h4_,h5_,h6_,h7_,h8_,h9_,h10_,h11_,h12_,h13_,h14_,h15_,h16_⟩
   have n0_:Aside0 (Kd.R (Kd.int .i64) 3 w50 w.heap.size (fun k_=>some k_≠(v272:Value).ownBlock∧some k_≠(.slice Ao12 t248.length co12:Value).ownBlock∧some k_≠(.slice Ao18 t257.length co18:Value).ownBlock) v265 y264):=⟨h0_⟩
   have n1_:Aside0 (Kd.R k57 57 w50 w.heap.size (fun k_=>some k_≠(.slice Ao11 t245.length co11:Value).ownBlock∧some k_≠(.slice Ao17 t254.length co17:Value).ownBlock) v269 t268):=⟨h1_⟩
   have n2_:Aside0 (Kd.Q (Kd.int .i64) 3 w50 w.heap.size (fun k_=>some k_≠(v265:Value).ownBlock∧some k_≠(.slice Ao12 t248.length co12:Value).ownBlock∧some k_≠(.slice Ao18 t257.length co18:Value).ownBlock) v272 t271):=⟨h2_⟩
   have n3_:Aside0 (Kd.R k57 57 w50 w.heap.size (fun k_=>some k_≠(v269:Value).ownBlock∧some k_≠(.slice Ao17 t254.length co17:Value).ownBlock) (.slice Ao11 t245.length co11) t245):=⟨h3_⟩
   have n4_:Aside0 (Kd.Q (Kd.int .i64) 3 w50 w.heap.size (fun k_=>some k_≠(v265:Value).ownBlock∧some k_≠(v272:Value).ownBlock∧some k_≠(.slice Ao18 t257.length co18:Value).ownBlock) (.slice Ao12 t248.length co12) t248):=⟨h4_⟩
   have n5_:Aside0 (Kd.R k57 57 w50 w.heap.size (fun k_=>some k_≠(v269:Value).ownBlock∧some k_≠(.slice Ao11 t245.length co11:Value).ownBlock) (.slice Ao17 t254.length co17) t254):=⟨h5_⟩
   have n6_:Aside0 (Kd.Q (Kd.int .i64) 3 w50 w.heap.size (fun k_=>some k_≠(v265:Value).ownBlock∧some k_≠(v272:Value).ownBlock∧some k_≠(.slice Ao12 t248.length co12:Value).ownBlock) (.slice Ao18 t257.length co18) t257):=⟨h6_⟩
   have n7_:Aside0 (w50.heap[Bh]?=some (.cells #[.int .i64 t244,.slice Ao11 t245.length co11,.slice Ao12 t248.length co12] 51 (0,0))):=⟨h7_⟩
   have n8_:Aside0 (w50.heap[Bb]?=some (.cells #[.int .i64 t253,.slice Ao17 t254.length co17,.slice Ao18 t257.length co18] 51 (0,0))):=⟨h8_⟩
   have n9_:Aside0 (w50.heap[Bi]?=some (.cells #[.int .i64 0,.slice none 0 0,.slice none 0 0] 51 (0,0))):=⟨h9_⟩
   have n10_:Aside0 (w.heap.size≤Bi):=⟨h10_⟩
   have n11_:Aside0 (w.heap.size≤Bi):=⟨h11_⟩
   have n12_:Aside0 (Bh≠Bi):=⟨h12_⟩
   have n13_:Aside0 (Bi≠Bh):=⟨h13_⟩
   have n14_:Aside0 (Bb≠Bi):=⟨h14_⟩
   have n15_:Aside0 (Bi≠Bb):=⟨h15_⟩
   have n16_:Aside0 (Below w.heap.size w w50):=⟨h16_⟩
   clear Be
   clear Bd
   clear Bg
   clear Bf
   clear Ba
   clear Bc
   clear HB
   clear h0_ h1_ h2_ h3_ h4_ h5_ h6_ h7_ h8_ h9_ h10_ h11_ h12_ h13_ h14_ h15_ h16_
   have Bm:=n0_
   have Bw:=n1_
   have By:=n2_
   have Be:=n3_
   have Bd:=n4_
   have Bg:=n5_
   have Bf:=n6_
   have Ba:=n7_
   have Bc:=n8_
   have Bn:=n9_
   have BA:=n10_
   have Bt:=n11_
   have Bk:=n12_
   have Bq:=n13_
   have Br:=n14_
   have Bs:=n15_
   have HB:=n16_
   clear n0_ n1_ n2_ n3_ n4_ n5_ n6_ n7_ n8_ n9_ n10_ n11_ n12_ n13_ n14_ n15_ n16_
   have hHeld:w50.cell? ⟨Bh,0,none⟩=some (.int .i64 t244)∧w50.cell? ⟨Bh,1,none⟩=some (.slice Ao11 t245.length co11)∧w50.cell? ⟨Bh,2,none⟩=some (.slice Ao12 t248.length co12):=hS_
   obtain ⟨Ao52,co52,eo52⟩:=rC Bw.out
   (first|subst eo52|(injection eo52 with f1_ f2_ f3_;have f4_:=f1_.symm;have f5_:=f3_.symm;clear f1_ f2_ f3_;subst f4_;subst f5_))
   obtain ⟨Ao54,co54,eo54,_⟩:=Kd.Q_slice By.out
   (first|subst eo54|(injection eo54 with f1_ f2_ f3_;have f4_:=f1_.symm;have f5_:=f3_.symm;clear f1_ f2_ f3_;subst f4_;subst f5_))
   refine norm_ (by simp only [putAll,Act.put,lA,lZ,lS];rfl) ?_
   refine oU 9 none z10q15 HT_ rfl rfl (by kernel_rfl) (by decide) (fun K hK=>?_)
   have hs51:=cz0 Bn.out
   have hfs51:=bF Bn.out 0
   have hns51_0:=Bk.out
   have hns51_1:=Br.out
   have hms51_0:=Bq.out
   have hms51_1:=Bs.out
   have hs53:=cz1 Bn.out
   have hfs53:=bF Bn.out 1
   have hns53_0:=Bk.out
   have hns53_1:=Br.out
   have hms53_0:=Bq.out
   have hms53_1:=Bs.out
   have hs55:=cz2 Bn.out
   have hfs55:=bF Bn.out 2
   have hns55_0:=Bk.out
   have hns55_1:=Br.out
   have hms55_0:=Bq.out
   have hms55_1:=Bs.out
   refine skip_ (w1:=?_) (by rfl) rfl ?_ ?_
   rotate_left;(go_simp;rfl)
   refine hK.out _ _ ⟨((cF (p:=⟨Bi,_,none⟩) Bk.out _).trans (((cF (p:=⟨Bi,_,none⟩) Bk.out _).trans (((cF (p:=⟨Bi,_,none⟩) Bk.out _).trans (hHeld.1)))))),((cF (p:=⟨Bi,_,none⟩) Bk.out _).trans (((cF (p:=⟨Bi,_,none⟩) Bk.out _).trans (((cF (p:=⟨Bi,_,none⟩) Bk.out _).trans (hHeld.2.1)))))),((cF (p:=⟨Bi,_,none⟩) Bk.out _).trans (((cF (p:=⟨Bi,_,none⟩) Bk.out _).trans (((cF (p:=⟨Bi,_,none⟩) Bk.out _).trans (hHeld.2.2))))))⟩ (fun hHeld=>?_)
   clear hK K
   refine pS 10 10 z10q16 HT_ rfl rfl (by kernel_rfl) (by rfl) (by intro w';go_simp;with_reducible rfl) (by simp only [Act.put,lA,lZ,lS,iw,jw];rfl) ?_
   refine done_ (done_of HT_.out (by kernel_rfl)) ?_
   have DE:=Bq.out
   have DF:=Bk.out
   have DG:=Bs.out
   have DH:=Br.out
   have Do:=cz0 Bn.out
   have Dp:=cz1 Bn.out
   have Dq:=cz2 Bn.out
   have Dr:=bF Bn.out 0
   have Ds:=bF Bn.out 1
   have Dt:=bF Bn.out 2
   have p276:0≤(0:Int):=(by omega)
   have q276:0<(t268.length:Int):=oE (by first|(with_reducible assumption)|assumption)
   obtain ⟨ad276,e276,hx276_0,hx276_1,hx276_2,hx276_3⟩:=at_T57 (rR Bw.out).2.2 0 p276 q276
   cases e276
   have qi276:(0<t268.length)=True:=eq_true (by omega)
   (try rw [show ((0:Int)).toNat=0 from rfl] at hx276_0)
   (try rw [show 0 * 4=0 from rfl] at hx276_0)
   (try rw [Addr.add_zero'] at hx276_0)
   (try rw [show ((0:Int)).toNat=0 from rfl] at hx276_1)
   (try rw [show 0 * 4=0 from rfl] at hx276_1)
   (try rw [Addr.add_zero'] at hx276_1)
   (try rw [show ((0:Int)).toNat=0 from rfl] at hx276_2)
   (try rw [show 0 * 4=0 from rfl] at hx276_2)
   (try rw [Addr.add_zero'] at hx276_2)
   (try rw [show ((0:Int)).toNat=0 from rfl] at hx276_3)
   (try rw [show 0 * 4=0 from rfl] at hx276_3)
   (try rw [Addr.add_zero'] at hx276_3)
   have hn276_0:ad276.block≠Bi:=oK (rE Bw.out Bn.out (by decide))
   have hn276_1:ad276.block≠Bi:=oK (rE Bw.out Bn.out (by decide))
   have hn276_2:ad276.block≠Bi:=oK (rE Bw.out Bn.out (by decide))
   replace hx276_0:=(cF (p:=⟨Bi,0,none⟩) (by first|exact aN hn276_0|exact hn276_0) (.int .i64 t267)).trans hx276_0
   replace hx276_1:=(cF (p:=⟨Bi,0,none⟩) (by first|exact aN hn276_0|exact hn276_0) (.int .i64 t267)).trans hx276_1
   replace hx276_2:=(cF (p:=⟨Bi,0,none⟩) (by first|exact aN hn276_0|exact hn276_0) (.int .i64 t267)).trans hx276_2
   replace hx276_3:=(cF (p:=⟨Bi,0,none⟩) (by first|exact aN hn276_0|exact hn276_0) (.int .i64 t267)).trans hx276_3
   replace hx276_0:=(cF (p:=⟨Bi,1,none⟩) (by first|exact aN hn276_1|exact hn276_1) (.slice (some ad276) t268.length co52)).trans hx276_0
   replace hx276_1:=(cF (p:=⟨Bi,1,none⟩) (by first|exact aN hn276_1|exact hn276_1) (.slice (some ad276) t268.length co52)).trans hx276_1
   replace hx276_2:=(cF (p:=⟨Bi,1,none⟩) (by first|exact aN hn276_1|exact hn276_1) (.slice (some ad276) t268.length co52)).trans hx276_2
   replace hx276_3:=(cF (p:=⟨Bi,1,none⟩) (by first|exact aN hn276_1|exact hn276_1) (.slice (some ad276) t268.length co52)).trans hx276_3
   replace hx276_0:=(cF (p:=⟨Bi,2,none⟩) (by first|exact aN hn276_2|exact hn276_2) (.slice Ao54 t271.length co54)).trans hx276_0
   replace hx276_1:=(cF (p:=⟨Bi,2,none⟩) (by first|exact aN hn276_2|exact hn276_2) (.slice Ao54 t271.length co54)).trans hx276_1
   replace hx276_2:=(cF (p:=⟨Bi,2,none⟩) (by first|exact aN hn276_2|exact hn276_2) (.slice Ao54 t271.length co54)).trans hx276_2
   replace hx276_3:=(cF (p:=⟨Bi,2,none⟩) (by first|exact aN hn276_2|exact hn276_2) (.slice Ao54 t271.length co54)).trans hx276_3
   clear hn276_0
   clear hn276_1
   clear hn276_2
   replace p276:=eq_true p276
   replace q276:=eq_true q276
   try go_wp2
   go_ret
   exact ⟨by first|rfl|(simp [errW_none,errW_some] <;> rfl)|(simp only [← hji37];first|rfl|(simp [errW_none,errW_some] <;> rfl))|(simp [*,errW_none,errW_some] <;> rfl),by repeat (first|(with_reducible first|exact HB.out|apply oA|apply pN|apply o1|refine bS ?_ Bj.out|refine bS ?_ Bl.out|refine bS ?_ Bt.out)|exact HB.out)⟩
/-- THE ONE PURE STATEMENT of laws_FnLockQuick: yours. -/
def laws_FnLockQuick.Pure:Prop:=∀ (l0:List Int),l0.length≤maxLen → l0.length * 1≤140737488351232 → (∀ x ∈ l0,(Lit.int .u8 x).wf=true) → ∃ k,laws_FnLockQuick.f k l0=some true
theorem laws_FnLockQuick.walk (P:laws_FnLockQuick.Pure) (a0:Option Addr) (len0 cap0:Nat) (z0:List Int) (w:World) (w0:(a0=none∧len0=0∧cap0=0∧z0=[])∨∃ x,a0=some x∧len0≤cap0∧cap0≤maxLen∧z0.length=cap0∧(∀ i,i<z0.length → w.cell? (x.add i)=some (.int .u8 (z0.getD i 0)))∧∀ n ∈ z0,(Lit.int .u8 n).wf=true) (y0:len0 * 1≤140737488351232) :
  Calls Try.prog 10 #[.slice a0 len0 cap0] w fun e w'=>e=.returned (.bool true)∧Below w.heap.size w w':=by
 obtain ⟨l0,rfl,hr0,hm0,hw0,hc0⟩:=ReadsInt.ofRowC w0
 obtain ⟨k,h⟩:=P l0 hm0 y0 hw0
 refine (laws_FnLockQuick.calls k _ _ l0 true w (Kd.C_of_reads (d:=(0:Int)) (h1:=fun _=>rfl) hr0) hc0 h ⟨rfl⟩).mono ?_
 rintro e w' ⟨rfl,hd⟩
 exact ⟨rfl,hd⟩

end Go.Proofs.Ytpdfkbggaihfpaa.PFnLockQuick
