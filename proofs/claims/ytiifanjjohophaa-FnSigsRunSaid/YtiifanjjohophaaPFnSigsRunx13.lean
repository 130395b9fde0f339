/- Proved here, without a condition beyond those that each theorem states: what the Go functions named below do is what the plain functions of the same names say. Written by xprint.py, a program of this session. -/
import Derived.Test.YtiifanjjohophaaPFnSigsRunx0
import Derived.Test.YtiifanjjohophaaPFnSigsRunx2
import Derived.Test.YtiifanjjohophaaPFnSigsRunx3
import Derived.Test.YtiifanjjohophaaPFnSigsRunx8
import Derived.Test.YtiifanjjohophaaPFnSigsRunx9
import Derived.Test.YtiifanjjohophaaPFnSigsRunx12
namespace Go.Proofs.Ytiifanjjohophaa.PFnSigsRun
open Go.RowKit Go.Proofs.YtiifanjjohophaaW.PrintWords Go.Proofs.YtiifanjjohophaaW.PrintLast Go.Proofs.YtiifanjjohophaaW.PrintMore
attribute [local go_sem] max2_int min2_int max_two min_two max_three min_three max_four min_four   -- for this text's walks alone
set_option linter.unusedVariables false
set_option linter.unusedSimpArgs false

attribute [local go_sem ↓] isSome_setCell_
/-! ### laws_FnSigsRun: function 8 -/
mutual
def laws_FnSigsRun.j0 : Nat → Bool → Bool → List Bool → List Bool → List Int → List Bool → List Bool → List Int → Option (Bool)
|0, _, _, _, _, _, _, _, _ => none
|k + 1, x6, x26, x277000, x277001, x277002, x287000, x287001, x287002 => if x26 = true then (some x6) else (laws_FnSigsRun.l0 k 0 x277000 x277001 x277002 x287000 x287001 x287002)
def laws_FnSigsRun.l0 : Nat → Int → List Bool → List Bool → List Int → List Bool → List Bool → List Int → Option (Bool)
|0, _, _, _, _, _, _, _ => none
|k + 1, x7, x277000, x277001, x277002, x287000, x287001, x287002 => if x7 < 8 then (if 0 ≤ x7 then (if x7 < (x287002.length : Int) then (if (rd x287002 x7) = 4 then (some false) else (if x7 < (x277002.length : Int) then (if (((rd x287002 x7) == 1) != ((rd x277002 x7) == 1)) = true then (some false) else (laws_FnSigsRun.l0 k (wrap64 (x7 + 1)) x277000 x277001 x277002 x287000 x287001 x287002)) else (none))) else (none)) else (none)) else ((impl_SigsOk.f k x287000 x287001 x287002).bind fun t302 => (if t302 = true then ((impl_SigsRun.f k x287000 x287001 x287002).bind fun bt303 => ((laws_qdSigs.f k bt303.1 bt303.2.1 bt303.2.2 x287000 x287001 x287002).bind fun t312 => (some t312))) else (some false)))
end
def laws_FnSigsRun.f (k : Nat) (l0 : List Int) : Option (Bool) := if (l0.length : Int) > 1048576 then (some true) else ((spec_DrawSigsRun.f k l0).bind fun bt267 => ((impl_SigsRun.f k bt267.1 bt267.2.1 bt267.2.2).bind fun bt277 => ((spec_SigsRun.f k bt267.1 bt267.2.1 bt267.2.2).bind fun bt287 => ((laws_qdSigs.f k bt277.1 bt277.2.1 bt277.2.2 bt287.1 bt287.2.1 bt287.2.2).bind fun t297 => (if t297 = true then ((impl_SigsOk.f k bt267.1 bt267.2.1 bt267.2.2).bind fun t298 => (laws_FnSigsRun.j0 k t297 (!t298) bt267.1 bt267.2.1 bt267.2.2 bt277.1 bt277.2.1 bt277.2.2)) else (laws_FnSigsRun.j0 k t297 true bt267.1 bt267.2.1 bt267.2.2 bt277.1 bt277.2.1 bt277.2.2))))))
theorem laws_FnSigsRun.mono_l : ∀ k, (∀ y0 y1 y2 y3 y4 y5 y6 y7, LeO (laws_FnSigsRun.j0 k y0 y1 y2 y3 y4 y5 y6 y7) (laws_FnSigsRun.j0 (k + 1) y0 y1 y2 y3 y4 y5 y6 y7)) ∧ (∀ y0 y1 y2 y3 y4 y5 y6, LeO (laws_FnSigsRun.l0 k y0 y1 y2 y3 y4 y5 y6) (laws_FnSigsRun.l0 (k + 1) y0 y1 y2 y3 y4 y5 y6))
|0 => ⟨fun _ _ _ _ _ _ _ _ r h => by simp [laws_FnSigsRun.j0] at h, fun _ _ _ _ _ _ _ r h => by simp [laws_FnSigsRun.l0] at h⟩
|k + 1 => by
  obtain ⟨ih0, ih1⟩ := laws_FnSigsRun.mono_l k
  refine ⟨?_, ?_⟩
  ·intro y0 y1 y2 y3 y4 y5 y6 y7
   unfold laws_FnSigsRun.j0
   repeat' first
  |(with_reducible exact ih0 _ _ _ _ _ _ _ _)
  |(with_reducible exact ih1 _ _ _ _ _ _ _)
  |(with_reducible exact impl_SigsOk.mono _ _ _ _)
  |(with_reducible exact impl_SigsRun.mono _ _ _ _)
  |(with_reducible exact laws_qdSigs.mono _ _ _ _ _ _ _)
  |(with_reducible exact spec_DrawSigsRun.mono _ _)
  |(with_reducible exact spec_SigsRun.mono _ _ _ _)
  |(with_reducible exact LeO.refl _)
  |(with_reducible exact LeO.none _)
  |(with_reducible refine LeO.ite ?_ ?_)
  |(with_reducible refine LeO.bind ?_ (fun _ => ?_))
  |exact ih0 _ _ _ _ _ _ _ _
  |exact ih1 _ _ _ _ _ _ _
  |exact impl_SigsOk.mono _ _ _ _
  |exact impl_SigsRun.mono _ _ _ _
  |exact laws_qdSigs.mono _ _ _ _ _ _ _
  |exact spec_DrawSigsRun.mono _ _
  |exact spec_SigsRun.mono _ _ _ _
  |exact LeO.none _
  |refine LeO.ite ?_ ?_
  |refine LeO.bind ?_ (fun _ => ?_)
  ·intro y0 y1 y2 y3 y4 y5 y6
   unfold laws_FnSigsRun.l0
   repeat' first
  |(with_reducible exact ih0 _ _ _ _ _ _ _ _)
  |(with_reducible exact ih1 _ _ _ _ _ _ _)
  |(with_reducible exact impl_SigsOk.mono _ _ _ _)
  |(with_reducible exact impl_SigsRun.mono _ _ _ _)
  |(with_reducible exact laws_qdSigs.mono _ _ _ _ _ _ _)
  |(with_reducible exact spec_DrawSigsRun.mono _ _)
  |(with_reducible exact spec_SigsRun.mono _ _ _ _)
  |(with_reducible exact LeO.refl _)
  |(with_reducible exact LeO.none _)
  |(with_reducible refine LeO.ite ?_ ?_)
  |(with_reducible refine LeO.bind ?_ (fun _ => ?_))
  |exact ih0 _ _ _ _ _ _ _ _
  |exact ih1 _ _ _ _ _ _ _
  |exact impl_SigsOk.mono _ _ _ _
  |exact impl_SigsRun.mono _ _ _ _
  |exact laws_qdSigs.mono _ _ _ _ _ _ _
  |exact spec_DrawSigsRun.mono _ _
  |exact spec_SigsRun.mono _ _ _ _
  |exact LeO.none _
  |refine LeO.ite ?_ ?_
  |refine LeO.bind ?_ (fun _ => ?_)
theorem laws_FnSigsRun.mono : ∀ a0 k, LeO (laws_FnSigsRun.f k a0) (laws_FnSigsRun.f (k + 1) a0) := by
 intro a0 k
 obtain ⟨ih0, ih1⟩ := laws_FnSigsRun.mono_l k
 unfold laws_FnSigsRun.f
 repeat' first
  |(with_reducible exact ih0 _ _ _ _ _ _ _ _)
  |(with_reducible exact ih1 _ _ _ _ _ _ _)
  |(with_reducible exact impl_SigsOk.mono _ _ _ _)
  |(with_reducible exact impl_SigsRun.mono _ _ _ _)
  |(with_reducible exact laws_qdSigs.mono _ _ _ _ _ _ _)
  |(with_reducible exact spec_DrawSigsRun.mono _ _)
  |(with_reducible exact spec_SigsRun.mono _ _ _ _)
  |(with_reducible exact LeO.refl _)
  |(with_reducible exact LeO.none _)
  |(with_reducible refine LeO.ite ?_ ?_)
  |(with_reducible refine LeO.bind ?_ (fun _ => ?_))
  |exact ih0 _ _ _ _ _ _ _ _
  |exact ih1 _ _ _ _ _ _ _
  |exact impl_SigsOk.mono _ _ _ _
  |exact impl_SigsRun.mono _ _ _ _
  |exact laws_qdSigs.mono _ _ _ _ _ _ _
  |exact spec_DrawSigsRun.mono _ _
  |exact spec_SigsRun.mono _ _ _ _
  |exact LeO.none _
  |refine LeO.ite ?_ ?_
  |refine LeO.bind ?_ (fun _ => ?_)
def laws_FnSigsRun.T12 : Bool × List (List Nat × List Nat) := (true, [([], []), ([0], [0]), ([], []), ([1, 2], [1, 2]), ([3], [3]), ([4], [4]), ([5], [5]), ([6], [6]), ([7, 6], [6, 7]), ([6], [6]), ([8, 9, 6], [6, 8, 9]), ([10, 6], [6, 10]), ([11, 6], [6, 11]), ([6], [6]), ([13, 6], [6, 13]), ([6], [6]), ([14, 15, 6], [6, 14, 15]), ([16, 6], [6, 16]), ([17, 6], [6, 17]), ([12, 18, 6], [6, 12, 18]), ([6, 19], [6, 19])])
def laws_FnSigsRun.B12 : List Nat := [0, 1, 0, 7, 15, 31, 63, 127, 255, 127, 1023, 2047, 4095, 127, 8319, 127, 57471, 123007, 254079, 524287, 1048575]
theorem laws_FnSigsRun.tab12 : rtab .any (opsOf Try.f8 12) = laws_FnSigsRun.T12 := by kernel_rfl
theorem laws_FnSigsRun.bits12 : waitsOk laws_FnSigsRun.T12.2 laws_FnSigsRun.B12 = true := by kernel_rfl
def laws_FnSigsRun.T14 : Bool × List (List Nat × List Nat) := (true, [([], []), ([0], [0]), ([1, 1], [1]), ([2], [2]), ([3, 2, 2], [2, 3]), ([2], [2]), ([4, 5, 4, 2], [2, 4, 5]), ([2, 6], [2, 6]), ([7, 6, 0, 1, 2, 3, 4, 5, 6, 7], [7])])
def laws_FnSigsRun.B14 : List Nat := [0, 1, 3, 7, 15, 7, 63, 127, 255]
theorem laws_FnSigsRun.tab14 : rtab .any (opsOf Try.f8 14) = laws_FnSigsRun.T14 := by kernel_rfl
theorem laws_FnSigsRun.bits14 : waitsOk laws_FnSigsRun.T14.2 laws_FnSigsRun.B14 = true := by kernel_rfl
abbrev z8q0 : Array Bool := bQ 21 0
abbrev z8q1 : Array Bool := bQ 21 1
abbrev z8q2 : Array Bool := bQ 21 5
abbrev z8q3 : Array Bool := bQ 21 7
abbrev z8q4 : Array Bool := bQ 21 15
abbrev z8q5 : Array Bool := bQ 21 31
abbrev z8q6 : Array Bool := bQ 21 63
abbrev z8q7 : Array Bool := bQ 21 127
abbrev z8q8 : Array Bool := bQ 21 255
abbrev z8q9 : Array Bool := bQ 21 767
abbrev z8q10 : Array Bool := bQ 21 8959
abbrev z8q11 : Array Bool := bQ 21 41727
abbrev z8q12 : Array Bool := bQ 21 41983
abbrev z8q13 : Array Bool := bQ 21 43007
abbrev z8q14 : Array Bool := bQ 21 45055
abbrev z8q15 : Array Bool := bQ 21 49151
abbrev z8q16 : Array Bool := bQ 21 65535
abbrev z8q17 : Array Bool := bQ 21 131071
abbrev z8q18 : Array Bool := bQ 21 262143
abbrev z8q19 : Array Bool := bQ 21 524287
abbrev z8q20 : Array Bool := bQ 21 1048575
abbrev z8q21 : Array Bool := bQ 21 2097151
abbrev z8q22 : Array Bool := bQ 9 0
abbrev z8q23 : Array Bool := bQ 9 1
abbrev z8q24 : Array Bool := bQ 9 3
abbrev z8q25 : Array Bool := bQ 9 7
abbrev z8q26 : Array Bool := bQ 9 15
abbrev z8q27 : Array Bool := bQ 9 47
abbrev z8q28 : Array Bool := bQ 9 63
abbrev z8q29 : Array Bool := bQ 9 127
abbrev z8q30 : Array Bool := bQ 9 255
abbrev z8q31 : Array Bool := bQ 9 511
set_option maxHeartbeats 2000000 in
set_option maxRecDepth 100000 in
theorem laws_FnSigsRun.calls (k:Nat) (A0:Option Addr) (c0:Nat) (l0:List Int) (r:Bool) (w:World) (hr0:Kd.C (Kd.int .u8) w A0 l0.length l0) (hc0:l0.length≤c0) (h:laws_FnSigsRun.f k l0=some r) (hT_:Aside0 (r=true)) :
  Calls Try.prog 8 #[.slice A0 l0.length c0] w fun e w'=>e=.returned (.bool r)∧Below w.heap.size w w':=by
 have hu26:=Try.underlying26
 have HR0:=Am hr0
 have HC0:=Am hc0
 clear hr0 hc0
 have HB:=Am (bJ w.heap.size w)
 have H:(if (l0.length:Int) > 1048576 then (some true) else ((spec_DrawSigsRun.f k l0).bind fun bt267=>((impl_SigsRun.f k bt267.1 bt267.2.1 bt267.2.2).bind fun bt277=>((spec_SigsRun.f k bt267.1 bt267.2.1 bt267.2.2).bind fun bt287=>((laws_qdSigs.f k bt277.1 bt277.2.1 bt277.2.2 bt287.1 bt287.2.1 bt287.2.2).bind fun t297=>(if t297=true then ((impl_SigsOk.f k bt267.1 bt267.2.1 bt267.2.2).bind fun t298=>(laws_FnSigsRun.j0 k t297 (!t298) bt267.1 bt267.2.1 bt267.2.2 bt277.1 bt277.2.1 bt277.2.2)) else (laws_FnSigsRun.j0 k t297 true bt267.1 bt267.2.1 bt267.2.2 bt277.1 bt277.2.1 bt277.2.2)))))))=some r:=h
 clear h
 by_cases c2:(l0.length:Int) > 1048576
 ·rw [if_pos c2] at H
  have c2b0:decide (1048576<(l0.length:Int))=true:=dT c2
  have c2b1:decide (1048576<l0.length)=true:=dT (by omega)
  clear c2
  obtain rfl:=oJ H
  go_enter Try.func8,Try.ntmps8
  go_wp2
  go_ret
  exact ⟨by first|rfl|(simp [errW_none,errW_some] <;> rfl)|(simp [*,errW_none,errW_some] <;> rfl),by repeat (first|(with_reducible first|exact HB.out|apply oA|apply pN|apply o1)|exact HB.out)⟩
 rw [if_neg c2] at H
 have c2b0:decide (1048576<(l0.length:Int))=false:=dF c2
 have c2b1:decide (1048576<l0.length)=false:=dF (by omega)
 clear c2
 replace H:=oC H
 obtain ⟨⟨t267,t270,t273⟩,A30,H⟩:=H
 replace H:((impl_SigsRun.f k t267 t270 t273).bind fun bt277=>((spec_SigsRun.f k t267 t270 t273).bind fun bt287=>((laws_qdSigs.f k bt277.1 bt277.2.1 bt277.2.2 bt287.1 bt287.2.1 bt287.2.2).bind fun t297=>(if t297=true then ((impl_SigsOk.f k t267 t270 t273).bind fun t298=>(laws_FnSigsRun.j0 k t297 (!t298) t267 t270 t273 bt277.1 bt277.2.1 bt277.2.2)) else (laws_FnSigsRun.j0 k t297 true t267 t270 t273 bt277.1 bt277.2.1 bt277.2.2)))))=some r:=H
 have A3:=Am A30
 clear A30
 replace H:=oC H
 obtain ⟨⟨t277,t280,t283⟩,A40,H⟩:=H
 replace H:((spec_SigsRun.f k t267 t270 t273).bind fun bt287=>((laws_qdSigs.f k t277 t280 t283 bt287.1 bt287.2.1 bt287.2.2).bind fun t297=>(if t297=true then ((impl_SigsOk.f k t267 t270 t273).bind fun t298=>(laws_FnSigsRun.j0 k t297 (!t298) t267 t270 t273 t277 t280 t283)) else (laws_FnSigsRun.j0 k t297 true t267 t270 t273 t277 t280 t283))))=some r:=H
 have A4:=Am A40
 clear A40
 replace H:=oC H
 obtain ⟨⟨t287,t290,t293⟩,A50,H⟩:=H
 replace H:((laws_qdSigs.f k t277 t280 t283 t287 t290 t293).bind fun t297=>(if t297=true then ((impl_SigsOk.f k t267 t270 t273).bind fun t298=>(laws_FnSigsRun.j0 k t297 (!t298) t267 t270 t273 t277 t280 t283)) else (laws_FnSigsRun.j0 k t297 true t267 t270 t273 t277 t280 t283)))=some r:=H
 have A5:=Am A50
 clear A50
 replace H:=oC H
 obtain ⟨t297,A60,H⟩:=H
 replace H:(if t297=true then ((impl_SigsOk.f k t267 t270 t273).bind fun t298=>(laws_FnSigsRun.j0 k t297 (!t298) t267 t270 t273 t277 t280 t283)) else (laws_FnSigsRun.j0 k t297 true t267 t270 t273 t277 t280 t283))=some r:=H
 have A6:=Am A60
 clear A60
 have HC7:=Am H
 clear H
 go_enter Try.func8,Try.ntmps8
 go_upto_region 7 with (first|((with_reducible refine gC (f:=30) rfl ?_);refine goesL_ (some 12) rfl rfl Try.func30 (by kernel_rfl) rfl #[.slice A0 l0.length c0] rfl (by (try simp only [lM,lC,lN]);first|done|rfl|(simp only [lD,lT];rfl)) ?_;(with_reducible refine (spec_DrawSigsRun.calls k _ _ l0 t267 t270 t273 _ ?side1 ?side2 A3.out).mono ?_);(case side1=>exact cL HR0.out);(case side2=>exact HC0.out);rintro e w8 ⟨v268,v271,v274,rfl,ho0,ho1,ho2,hb⟩;refine ⟨_,rfl,?_⟩;have n0_:=Am (Kd.Q_lower ho0 (bZ (by repeat (first|(with_reducible first|exact HB.out|apply oA|apply pN|apply o1)|exact HB.out))));have n1_:=Am (rW ho1 (bZ (by repeat (first|(with_reducible first|exact HB.out|apply oA|apply pN|apply o1)|exact HB.out))));have n2_:=Am (rW ho2 (bZ (by repeat (first|(with_reducible first|exact HB.out|apply oA|apply pN|apply o1)|exact HB.out))));have n3_:=Am (bP (by repeat (first|(with_reducible first|exact HB.out|apply oA|apply pN|apply o1)|exact HB.out)) hb);clear HB;revert n0_ n1_ n2_ n3_;intro Bp Bq Br HB;(try clear hb);(try clear hb2);(try clear hk);(try clear hi);(try clear ho0);(try clear ho1);(try clear ho2))|((with_reducible refine gD (N:=3) rfl ?_);refine bI ?hg (N:=3) ?hd (cs:=#[.slice none 0 0,.slice none 0 0,.slice none 0 0]) (t:=26) ?hr ?_;(case hd=>rfl);(case hg=>rfl);(case hr=>first|(go_simp;done)|(go_simp;rfl));intro Bd hg w9 hbox hb;have n0_:=Am (Kd.Q_below (qL Bp.out) hb);have n1_:=Am (rB (rL Bq.out) hb);have n2_:=Am (rB (rL Br.out) hb);have n3_:=Am (bP (by repeat (first|(with_reducible first|exact HB.out|apply oA|apply pN|apply o1)|exact HB.out)) hb);have n4_:=Am (hbox);have n5_:=Am ((by rw [hg];exact (bZ (by repeat (first|(with_reducible first|exact HB.out|apply oA|apply pN|apply o1)|exact HB.out))):w.heap.size≤Bd));have n6_:=Am ((by rw [hg];exact (bZ (by repeat (first|(with_reducible first|exact HB.out|apply oA|apply pN|apply o1)|exact HB.out))):w.heap.size≤Bd));clear Bp Bq Br HB;revert n0_ n1_ n2_ n3_ n4_ n5_ n6_;intro Bp Bq Br HB Bc Dl Bs;clear hb hbox hg;obtain ⟨Ao10,co10,eo10,_⟩:=Kd.Q_slice Bp.out;subst eo10;have BJ:=cz0 Bc.out;have BK:=cz1 Bc.out;have BL:=cz2 Bc.out;have BM:=bF Bc.out 0;have BN:=bF Bc.out 1;have BO:=bF Bc.out 2;obtain ⟨Ao12,co12,eo12⟩:=rC Bq.out;subst eo12;obtain ⟨Ao13,co13,eo13⟩:=rC Br.out;subst eo13)|((with_reducible refine gC (f:=31) rfl ?_);refine goesL_ (some 14) rfl rfl Try.func31 (by kernel_rfl) rfl #[.agg #[.slice Ao10 t267.length co10,.slice Ao12 t270.length co12,.slice Ao13 t273.length co13]] rfl (by (try simp only [lM,lC,lN]);first|done|rfl|(simp only [lD,lT];rfl)) ?_;(with_reducible refine (impl_SigsRun.calls k _ _ t267 _ _ t270 _ _ t273 t277 t280 t283 _ ?side1 ?side2 ?side3 ?side4 ?side5 ?side6 A4.out).mono ?_);(case side1=>refine (qR (e:=4) (base:=w.heap.size) (ok:=fun k_=>some k_≠(.slice Ao12 t270.length co12:Value).ownBlock) (n:=t267.length) (c:=co10) ?_).2.2;exact (by (with_reducible repeat (first|apply Kd.Q_alloc|apply Kd.Q_drewN|apply Kd.Q_drew));exact (qM (Kd.Q_far (p:=⟨Bd,2,none⟩) (Kd.Q_far (p:=⟨Bd,1,none⟩) (Kd.Q_far (p:=⟨Bd,0,none⟩) (Kd.Q_types Bp.out Bc.out (by decide)) (fun _ hk=>hk.2) (.slice Ao10 t267.length co10)) (fun _ hk=>hk.2) (.slice Ao12 t270.length co12)) (fun _ hk=>hk.2) (.slice Ao13 t273.length co13)) (fun _ h_=>h_.1))));(case side2=>exact (qR Bp.out).2.1);(case side3=>refine (rR (e:=4) (base:=w.heap.size) (ok:=fun k_=>some k_≠(.slice Ao10 t267.length co10:Value).ownBlock) (n:=t270.length) (c:=co12) ?_).2.2;exact (by (with_reducible repeat (first|apply rA|apply rN|apply rD));exact (rM (rF (p:=⟨Bd,2,none⟩) (rF (p:=⟨Bd,1,none⟩) (rF (p:=⟨Bd,0,none⟩) (rT Bq.out Bc.out (by decide)) (fun _ hk=>hk.2) (.slice Ao10 t267.length co10)) (fun _ hk=>hk.2) (.slice Ao12 t270.length co12)) (fun _ hk=>hk.2) (.slice Ao13 t273.length co13)) (fun _ h_=>h_.1))));(case side4=>exact (rR Bq.out).2.1);(case side5=>refine (rR (e:=3) (base:=w.heap.size) (ok:=fun k_=>True) (n:=t273.length) (c:=co13) ?_).2.2;exact (by (with_reducible repeat (first|apply rA|apply rN|apply rD));exact (rM (rF (p:=⟨Bd,2,none⟩) (rF (p:=⟨Bd,1,none⟩) (rF (p:=⟨Bd,0,none⟩) (rT Br.out Bc.out (by decide)) (fun _ hk=>hk.2) (.slice Ao10 t267.length co10)) (fun _ hk=>hk.2) (.slice Ao12 t270.length co12)) (fun _ hk=>hk.2) (.slice Ao13 t273.length co13)) (fun _ h_=>h_.1))));(case side6=>exact (rR Br.out).2.1);rintro e w14 ⟨v278,v281,v284,rfl,ho0,ho1,ho2,hb⟩;refine ⟨_,rfl,?_⟩;have n0_:=Am (qM (qJ (qJ (qK (by (with_reducible repeat (first|apply Kd.Q_alloc|apply Kd.Q_drewN|apply Kd.Q_drew));exact (qM (Kd.Q_far (p:=⟨Bd,2,none⟩) (Kd.Q_far (p:=⟨Bd,1,none⟩) (Kd.Q_far (p:=⟨Bd,0,none⟩) (Kd.Q_types Bp.out Bc.out (by decide)) (fun _ hk=>hk.2) (.slice Ao10 t267.length co10)) (fun _ hk=>hk.2) (.slice Ao12 t270.length co12)) (fun _ hk=>hk.2) (.slice Ao13 t273.length co13)) (fun _ h_=>h_.1))) hb) (rZ ho0)) (rZ ho1)) (fun _ h_=>h_.1));have n1_:=Am (rM (rJ (rJ (rK (by (with_reducible repeat (first|apply rA|apply rN|apply rD));exact (rM (rF (p:=⟨Bd,2,none⟩) (rF (p:=⟨Bd,1,none⟩) (rF (p:=⟨Bd,0,none⟩) (rT Bq.out Bc.out (by decide)) (fun _ hk=>hk.2) (.slice Ao10 t267.length co10)) (fun _ hk=>hk.2) (.slice Ao12 t270.length co12)) (fun _ hk=>hk.2) (.slice Ao13 t273.length co13)) (fun _ h_=>h_.1))) hb) (rZ ho0)) (rZ ho1)) (fun _ h_=>h_.1));have n2_:=Am (rX (by (with_reducible repeat (first|apply rA|apply rN|apply rD));exact (rM (rF (p:=⟨Bd,2,none⟩) (rF (p:=⟨Bd,1,none⟩) (rF (p:=⟨Bd,0,none⟩) (rT Br.out Bc.out (by decide)) (fun _ hk=>hk.2) (.slice Ao10 t267.length co10)) (fun _ hk=>hk.2) (.slice Ao12 t270.length co12)) (fun _ hk=>hk.2) (.slice Ao13 t273.length co13)) (fun _ h_=>h_.1))) (rZ ho2) hb);have n3_:=Am (rW (rQ (rQ ho0 (qI (by (with_reducible repeat (first|apply Kd.Q_alloc|apply Kd.Q_drewN|apply Kd.Q_drew));exact (qM (Kd.Q_far (p:=⟨Bd,2,none⟩) (Kd.Q_far (p:=⟨Bd,1,none⟩) (Kd.Q_far (p:=⟨Bd,0,none⟩) (Kd.Q_types Bp.out Bc.out (by decide)) (fun _ hk=>hk.2) (.slice Ao10 t267.length co10)) (fun _ hk=>hk.2) (.slice Ao12 t270.length co12)) (fun _ hk=>hk.2) (.slice Ao13 t273.length co13)) (fun _ h_=>h_.1))))) (rI (by (with_reducible repeat (first|apply rA|apply rN|apply rD));exact (rM (rF (p:=⟨Bd,2,none⟩) (rF (p:=⟨Bd,1,none⟩) (rF (p:=⟨Bd,0,none⟩) (rT Bq.out Bc.out (by decide)) (fun _ hk=>hk.2) (.slice Ao10 t267.length co10)) (fun _ hk=>hk.2) (.slice Ao12 t270.length co12)) (fun _ hk=>hk.2) (.slice Ao13 t273.length co13)) (fun _ h_=>h_.1))))) (bZ (by repeat (first|(with_reducible first|exact HB.out|apply oA|apply pN|apply o1|refine bS ?_ Bs.out)|exact HB.out))));have n4_:=Am (rW (rQ (rQ ho1 (qI (by (with_reducible repeat (first|apply Kd.Q_alloc|apply Kd.Q_drewN|apply Kd.Q_drew));exact (qM (Kd.Q_far (p:=⟨Bd,2,none⟩) (Kd.Q_far (p:=⟨Bd,1,none⟩) (Kd.Q_far (p:=⟨Bd,0,none⟩) (Kd.Q_types Bp.out Bc.out (by decide)) (fun _ hk=>hk.2) (.slice Ao10 t267.length co10)) (fun _ hk=>hk.2) (.slice Ao12 t270.length co12)) (fun _ hk=>hk.2) (.slice Ao13 t273.length co13)) (fun _ h_=>h_.1))))) (rI (by (with_reducible repeat (first|apply rA|apply rN|apply rD));exact (rM (rF (p:=⟨Bd,2,none⟩) (rF (p:=⟨Bd,1,none⟩) (rF (p:=⟨Bd,0,none⟩) (rT Bq.out Bc.out (by decide)) (fun _ hk=>hk.2) (.slice Ao10 t267.length co10)) (fun _ hk=>hk.2) (.slice Ao12 t270.length co12)) (fun _ hk=>hk.2) (.slice Ao13 t273.length co13)) (fun _ h_=>h_.1))))) (bZ (by repeat (first|(with_reducible first|exact HB.out|apply oA|apply pN|apply o1|refine bS ?_ Bs.out)|exact HB.out))));have n5_:=Am (rW (rQ ho2 (rI (by (with_reducible repeat (first|apply rA|apply rN|apply rD));exact (rM (rF (p:=⟨Bd,2,none⟩) (rF (p:=⟨Bd,1,none⟩) (rF (p:=⟨Bd,0,none⟩) (rT Br.out Bc.out (by decide)) (fun _ hk=>hk.2) (.slice Ao10 t267.length co10)) (fun _ hk=>hk.2) (.slice Ao12 t270.length co12)) (fun _ hk=>hk.2) (.slice Ao13 t273.length co13)) (fun _ h_=>h_.1))))) (bZ (by repeat (first|(with_reducible first|exact HB.out|apply oA|apply pN|apply o1|refine bS ?_ Bs.out)|exact HB.out))));have n6_:=Am (bB (g:=Bd) (o:=.cells #[.slice Ao10 t267.length co10,.slice Ao12 t270.length co12,.slice Ao13 t273.length co13] 26 (0,0)) (by (with_reducible repeat (first|refine bN ?_ _|refine bD ?_|refine bA ?_ _));refine bT (cs:=#[.slice Ao10 t267.length co10,.slice Ao12 t270.length co12,.slice none 0 0]) ?_ 2 _ rfl;(with_reducible repeat (first|refine bN ?_ _|refine bD ?_|refine bA ?_ _));refine bT (cs:=#[.slice Ao10 t267.length co10,.slice none 0 0,.slice none 0 0]) ?_ 1 _ rfl;(with_reducible repeat (first|refine bN ?_ _|refine bD ?_|refine bA ?_ _));refine bT (cs:=#[.slice none 0 0,.slice none 0 0,.slice none 0 0]) ?_ 0 _ rfl;(with_reducible repeat (first|refine bN ?_ _|refine bD ?_|refine bA ?_ _));exact Bc.out) hb);have n7_:=Am (bP (by repeat (first|(with_reducible first|exact HB.out|apply oA|apply pN|apply o1|refine bS ?_ Bs.out)|exact HB.out)) hb);clear Bp Bq Br Bc HB;revert n0_ n1_ n2_ n3_ n4_ n5_ n6_ n7_;intro Bp Bq Br Bt Bu Bv Bc HB;(try clear hb);(try clear hb2);(try clear hk);(try clear hi);(try clear ho0);(try clear ho1);(try clear ho2))|((with_reducible refine gD (N:=4) rfl ?_);refine bI ?hg (N:=4) ?hd (cs:=#[.slice none 0 0,.slice none 0 0,.slice none 0 0]) (t:=26) ?hr ?_;(case hd=>rfl);(case hg=>rfl);(case hr=>first|(go_simp;done)|(go_simp;rfl));intro Ba hg w15 hbox hb;have n0_:=Am (Kd.Q_below (qL Bp.out) hb);have n1_:=Am (rB (rL Bq.out) hb);have n2_:=Am (rB (rL Br.out) hb);have n3_:=Am (rB (rL Bt.out) hb);have n4_:=Am (rB (rL Bu.out) hb);have n5_:=Am (rB (rL Bv.out) hb);have n6_:=Am (bX Bc.out hb);have n7_:=Am (bP (by repeat (first|(with_reducible first|exact HB.out|apply oA|apply pN|apply o1|refine bS ?_ Bs.out)|exact HB.out)) hb);have n8_:=Am (hbox);have n9_:=Am ((by rw [hg];exact (bZ (by repeat (first|(with_reducible first|exact HB.out|apply oA|apply pN|apply o1|refine bS ?_ Bs.out)|exact HB.out))):w.heap.size≤Ba));have n10_:=Am ((by rw [hg];exact (bZ (by repeat (first|(with_reducible first|exact HB.out|apply oA|apply pN|apply o1|refine bS ?_ Bs.out)|exact HB.out))):w.heap.size≤Ba));have n11_:=Am ((nL Bc.out hg));have n12_:=Am ((nG Bc.out hg));clear Bp Bq Br Bt Bu Bv Bc HB;revert n0_ n1_ n2_ n3_ n4_ n5_ n6_ n7_ n8_ n9_ n10_ n11_ n12_;intro Bp Bq Br Bt Bu Bv Bc HB Bb Dm Bw BB BG;clear hb hbox hg;obtain ⟨Ao16,co16,eo16⟩:=rC Bt.out;subst eo16;have Dn:=BG.out;have Do:=BB.out;have BP:=cz0 Bb.out;have BQ:=cz1 Bb.out;have BR:=cz2 Bb.out;have BS:=bF Bb.out 0;have BT:=bF Bb.out 1;have BU:=bF Bb.out 2;obtain ⟨Ao19,co19,eo19⟩:=rC Bu.out;subst eo19;obtain ⟨Ao20,co20,eo20⟩:=rC Bv.out;subst eo20;have BV:=cz0 Bc.out;have BW:=cz1 Bc.out;have BX:=cz2 Bc.out;have BY:=bF Bc.out 0;have BZ:=bF Bc.out 1;have B0:=bF Bc.out 2)|((with_reducible refine gC (f:=32) rfl ?_);refine goesL_ (some 16) rfl rfl Try.func32 (by kernel_rfl) rfl #[.agg #[.slice Ao10 t267.length co10,.slice Ao12 t270.length co12,.slice Ao13 t273.length co13]] rfl (by (try simp only [lM,lC,lN]);first|done|rfl|(simp only [lD,lT];rfl)) ?_;(with_reducible refine (spec_SigsRun.calls k _ _ t267 _ _ t270 _ _ t273 t287 t290 t293 _ ?side1 ?side2 ?side3 ?side4 ?side5 ?side6 A5.out).mono ?_);(case side1=>refine (qR (e:=4) (base:=w.heap.size) (ok:=fun k_=>((some k_≠(.slice Ao12 t270.length co12:Value).ownBlock∧some k_≠(.slice Ao16 t277.length co16:Value).ownBlock)∧some k_≠(.slice Ao19 t280.length co19:Value).ownBlock)) (n:=t267.length) (c:=co10) ?_).2.2;exact (by (with_reducible repeat (first|apply Kd.Q_alloc|apply Kd.Q_drewN|apply Kd.Q_drew));exact (qM (Kd.Q_far (p:=⟨Ba,2,none⟩) (Kd.Q_far (p:=⟨Ba,1,none⟩) (Kd.Q_far (p:=⟨Ba,0,none⟩) (Kd.Q_types Bp.out Bb.out (by decide)) (fun _ hk=>hk.2) (.slice Ao16 t277.length co16)) (fun _ hk=>hk.2) (.slice Ao19 t280.length co19)) (fun _ hk=>hk.2) (.slice Ao20 t283.length co20)) (fun _ h_=>h_.1))));(case side2=>exact (qR Bp.out).2.1);(case side3=>refine (rR (e:=4) (base:=w.heap.size) (ok:=fun k_=>((some k_≠(.slice Ao10 t267.length co10:Value).ownBlock∧some k_≠(.slice Ao16 t277.length co16:Value).ownBlock)∧some k_≠(.slice Ao19 t280.length co19:Value).ownBlock)) (n:=t270.length) (c:=co12) ?_).2.2;exact (by (with_reducible repeat (first|apply rA|apply rN|apply rD));exact (rM (rF (p:=⟨Ba,2,none⟩) (rF (p:=⟨Ba,1,none⟩) (rF (p:=⟨Ba,0,none⟩) (rT Bq.out Bb.out (by decide)) (fun _ hk=>hk.2) (.slice Ao16 t277.length co16)) (fun _ hk=>hk.2) (.slice Ao19 t280.length co19)) (fun _ hk=>hk.2) (.slice Ao20 t283.length co20)) (fun _ h_=>h_.1))));(case side4=>exact (rR Bq.out).2.1);(case side5=>refine (rR (e:=3) (base:=w.heap.size) (ok:=fun k_=>(True∧some k_≠(.slice Ao20 t283.length co20:Value).ownBlock)) (n:=t273.length) (c:=co13) ?_).2.2;exact (by (with_reducible repeat (first|apply rA|apply rN|apply rD));exact (rM (rF (p:=⟨Ba,2,none⟩) (rF (p:=⟨Ba,1,none⟩) (rF (p:=⟨Ba,0,none⟩) (rT Br.out Bb.out (by decide)) (fun _ hk=>hk.2) (.slice Ao16 t277.length co16)) (fun _ hk=>hk.2) (.slice Ao19 t280.length co19)) (fun _ hk=>hk.2) (.slice Ao20 t283.length co20)) (fun _ h_=>h_.1))));(case side6=>exact (rR Br.out).2.1);rintro e w22 ⟨v288,v291,v294,rfl,ho0,ho1,ho2,hb⟩;refine ⟨_,rfl,?_⟩;have n0_:=Am (qM (qJ (qJ (qK (by (with_reducible repeat (first|apply Kd.Q_alloc|apply Kd.Q_drewN|apply Kd.Q_drew));exact (qM (Kd.Q_far (p:=⟨Ba,2,none⟩) (Kd.Q_far (p:=⟨Ba,1,none⟩) (Kd.Q_far (p:=⟨Ba,0,none⟩) (Kd.Q_types Bp.out Bb.out (by decide)) (fun _ hk=>hk.2) (.slice Ao16 t277.length co16)) (fun _ hk=>hk.2) (.slice Ao19 t280.length co19)) (fun _ hk=>hk.2) (.slice Ao20 t283.length co20)) (fun _ h_=>h_.1))) hb) (rZ ho0)) (rZ ho1)) (fun _ h_=>h_.1));have n1_:=Am (rM (rJ (rJ (rK (by (with_reducible repeat (first|apply rA|apply rN|apply rD));exact (rM (rF (p:=⟨Ba,2,none⟩) (rF (p:=⟨Ba,1,none⟩) (rF (p:=⟨Ba,0,none⟩) (rT Bq.out Bb.out (by decide)) (fun _ hk=>hk.2) (.slice Ao16 t277.length co16)) (fun _ hk=>hk.2) (.slice Ao19 t280.length co19)) (fun _ hk=>hk.2) (.slice Ao20 t283.length co20)) (fun _ h_=>h_.1))) hb) (rZ ho0)) (rZ ho1)) (fun _ h_=>h_.1));have n2_:=Am (rX (by (with_reducible repeat (first|apply rA|apply rN|apply rD));exact (rM (rF (p:=⟨Ba,2,none⟩) (rF (p:=⟨Ba,1,none⟩) (rF (p:=⟨Ba,0,none⟩) (rT Br.out Bb.out (by decide)) (fun _ hk=>hk.2) (.slice Ao16 t277.length co16)) (fun _ hk=>hk.2) (.slice Ao19 t280.length co19)) (fun _ hk=>hk.2) (.slice Ao20 t283.length co20)) (fun _ h_=>h_.1))) (rZ ho2) hb);have n3_:=Am (rM (rJ (rJ (rK (by (with_reducible repeat (first|apply rA|apply rN|apply rD));exact (rM (rF (p:=⟨Ba,2,none⟩) (rF (p:=⟨Ba,1,none⟩) (rF (p:=⟨Ba,0,none⟩) (rT Bt.out Bb.out (by decide)) (fun _ hk=>hk.2) (.slice Ao16 t277.length co16)) (fun _ hk=>hk.2) (.slice Ao19 t280.length co19)) (fun _ hk=>hk.2) (.slice Ao20 t283.length co20)) (fun _ h_=>h_.1))) hb) (rZ ho0)) (rZ ho1)) (fun _ h_=>h_.1));have n4_:=Am (rM (rJ (rJ (rK (by (with_reducible repeat (first|apply rA|apply rN|apply rD));exact (rM (rF (p:=⟨Ba,2,none⟩) (rF (p:=⟨Ba,1,none⟩) (rF (p:=⟨Ba,0,none⟩) (rT Bu.out Bb.out (by decide)) (fun _ hk=>hk.2) (.slice Ao16 t277.length co16)) (fun _ hk=>hk.2) (.slice Ao19 t280.length co19)) (fun _ hk=>hk.2) (.slice Ao20 t283.length co20)) (fun _ h_=>h_.1))) hb) (rZ ho0)) (rZ ho1)) (fun _ h_=>h_.1));have n5_:=Am (rX (by (with_reducible repeat (first|apply rA|apply rN|apply rD));exact (rM (rF (p:=⟨Ba,2,none⟩) (rF (p:=⟨Ba,1,none⟩) (rF (p:=⟨Ba,0,none⟩) (rT Bv.out Bb.out (by decide)) (fun _ hk=>hk.2) (.slice Ao16 t277.length co16)) (fun _ hk=>hk.2) (.slice Ao19 t280.length co19)) (fun _ hk=>hk.2) (.slice Ao20 t283.length co20)) (fun _ h_=>h_.1))) (rZ ho2) hb);have n6_:=Am (rW (rQ (rQ (rQ (rQ ho0 (qI (by (with_reducible repeat (first|apply Kd.Q_alloc|apply Kd.Q_drewN|apply Kd.Q_drew));exact (qM (Kd.Q_far (p:=⟨Ba,2,none⟩) (Kd.Q_far (p:=⟨Ba,1,none⟩) (Kd.Q_far (p:=⟨Ba,0,none⟩) (Kd.Q_types Bp.out Bb.out (by decide)) (fun _ hk=>hk.2) (.slice Ao16 t277.length co16)) (fun _ hk=>hk.2) (.slice Ao19 t280.length co19)) (fun _ hk=>hk.2) (.slice Ao20 t283.length co20)) (fun _ h_=>h_.1))))) (rI (by (with_reducible repeat (first|apply rA|apply rN|apply rD));exact (rM (rF (p:=⟨Ba,2,none⟩) (rF (p:=⟨Ba,1,none⟩) (rF (p:=⟨Ba,0,none⟩) (rT Bq.out Bb.out (by decide)) (fun _ hk=>hk.2) (.slice Ao16 t277.length co16)) (fun _ hk=>hk.2) (.slice Ao19 t280.length co19)) (fun _ hk=>hk.2) (.slice Ao20 t283.length co20)) (fun _ h_=>h_.1))))) (rI (by (with_reducible repeat (first|apply rA|apply rN|apply rD));exact (rM (rF (p:=⟨Ba,2,none⟩) (rF (p:=⟨Ba,1,none⟩) (rF (p:=⟨Ba,0,none⟩) (rT Bt.out Bb.out (by decide)) (fun _ hk=>hk.2) (.slice Ao16 t277.length co16)) (fun _ hk=>hk.2) (.slice Ao19 t280.length co19)) (fun _ hk=>hk.2) (.slice Ao20 t283.length co20)) (fun _ h_=>h_.1))))) (rI (by (with_reducible repeat (first|apply rA|apply rN|apply rD));exact (rM (rF (p:=⟨Ba,2,none⟩) (rF (p:=⟨Ba,1,none⟩) (rF (p:=⟨Ba,0,none⟩) (rT Bu.out Bb.out (by decide)) (fun _ hk=>hk.2) (.slice Ao16 t277.length co16)) (fun _ hk=>hk.2) (.slice Ao19 t280.length co19)) (fun _ hk=>hk.2) (.slice Ao20 t283.length co20)) (fun _ h_=>h_.1))))) (bZ (by repeat (first|(with_reducible first|exact HB.out|apply oA|apply pN|apply o1|refine bS ?_ Bs.out|refine bS ?_ Bw.out)|exact HB.out))));have n7_:=Am (rW (rQ (rQ (rQ (rQ ho1 (qI (by (with_reducible repeat (first|apply Kd.Q_alloc|apply Kd.Q_drewN|apply Kd.Q_drew));exact (qM (Kd.Q_far (p:=⟨Ba,2,none⟩) (Kd.Q_far (p:=⟨Ba,1,none⟩) (Kd.Q_far (p:=⟨Ba,0,none⟩) (Kd.Q_types Bp.out Bb.out (by decide)) (fun _ hk=>hk.2) (.slice Ao16 t277.length co16)) (fun _ hk=>hk.2) (.slice Ao19 t280.length co19)) (fun _ hk=>hk.2) (.slice Ao20 t283.length co20)) (fun _ h_=>h_.1))))) (rI (by (with_reducible repeat (first|apply rA|apply rN|apply rD));exact (rM (rF (p:=⟨Ba,2,none⟩) (rF (p:=⟨Ba,1,none⟩) (rF (p:=⟨Ba,0,none⟩) (rT Bq.out Bb.out (by decide)) (fun _ hk=>hk.2) (.slice Ao16 t277.length co16)) (fun _ hk=>hk.2) (.slice Ao19 t280.length co19)) (fun _ hk=>hk.2) (.slice Ao20 t283.length co20)) (fun _ h_=>h_.1))))) (rI (by (with_reducible repeat (first|apply rA|apply rN|apply rD));exact (rM (rF (p:=⟨Ba,2,none⟩) (rF (p:=⟨Ba,1,none⟩) (rF (p:=⟨Ba,0,none⟩) (rT Bt.out Bb.out (by decide)) (fun _ hk=>hk.2) (.slice Ao16 t277.length co16)) (fun _ hk=>hk.2) (.slice Ao19 t280.length co19)) (fun _ hk=>hk.2) (.slice Ao20 t283.length co20)) (fun _ h_=>h_.1))))) (rI (by (with_reducible repeat (first|apply rA|apply rN|apply rD));exact (rM (rF (p:=⟨Ba,2,none⟩) (rF (p:=⟨Ba,1,none⟩) (rF (p:=⟨Ba,0,none⟩) (rT Bu.out Bb.out (by decide)) (fun _ hk=>hk.2) (.slice Ao16 t277.length co16)) (fun _ hk=>hk.2) (.slice Ao19 t280.length co19)) (fun _ hk=>hk.2) (.slice Ao20 t283.length co20)) (fun _ h_=>h_.1))))) (bZ (by repeat (first|(with_reducible first|exact HB.out|apply oA|apply pN|apply o1|refine bS ?_ Bs.out|refine bS ?_ Bw.out)|exact HB.out))));have n8_:=Am (rW (rQ (rQ ho2 (rI (by (with_reducible repeat (first|apply rA|apply rN|apply rD));exact (rM (rF (p:=⟨Ba,2,none⟩) (rF (p:=⟨Ba,1,none⟩) (rF (p:=⟨Ba,0,none⟩) (rT Br.out Bb.out (by decide)) (fun _ hk=>hk.2) (.slice Ao16 t277.length co16)) (fun _ hk=>hk.2) (.slice Ao19 t280.length co19)) (fun _ hk=>hk.2) (.slice Ao20 t283.length co20)) (fun _ h_=>h_.1))))) (rI (by (with_reducible repeat (first|apply rA|apply rN|apply rD));exact (rM (rF (p:=⟨Ba,2,none⟩) (rF (p:=⟨Ba,1,none⟩) (rF (p:=⟨Ba,0,none⟩) (rT Bv.out Bb.out (by decide)) (fun _ hk=>hk.2) (.slice Ao16 t277.length co16)) (fun _ hk=>hk.2) (.slice Ao19 t280.length co19)) (fun _ hk=>hk.2) (.slice Ao20 t283.length co20)) (fun _ h_=>h_.1))))) (bZ (by repeat (first|(with_reducible first|exact HB.out|apply oA|apply pN|apply o1|refine bS ?_ Bs.out|refine bS ?_ Bw.out)|exact HB.out))));have n9_:=Am (bB (g:=Bd) (o:=.cells #[.slice Ao10 t267.length co10,.slice Ao12 t270.length co12,.slice Ao13 t273.length co13] 26 (0,0)) (by (with_reducible repeat (first|refine bN ?_ _|refine bD ?_|refine bA ?_ _|refine bE ?_ BB.out _));exact Bc.out) hb);have n10_:=Am (bB (g:=Ba) (o:=.cells #[.slice Ao16 t277.length co16,.slice Ao19 t280.length co19,.slice Ao20 t283.length co20] 26 (0,0)) (by (with_reducible repeat (first|refine bN ?_ _|refine bD ?_|refine bA ?_ _));refine bT (cs:=#[.slice Ao16 t277.length co16,.slice Ao19 t280.length co19,.slice none 0 0]) ?_ 2 _ rfl;(with_reducible repeat (first|refine bN ?_ _|refine bD ?_|refine bA ?_ _));refine bT (cs:=#[.slice Ao16 t277.length co16,.slice none 0 0,.slice none 0 0]) ?_ 1 _ rfl;(with_reducible repeat (first|refine bN ?_ _|refine bD ?_|refine bA ?_ _));refine bT (cs:=#[.slice none 0 0,.slice none 0 0,.slice none 0 0]) ?_ 0 _ rfl;(with_reducible repeat (first|refine bN ?_ _|refine bD ?_|refine bA ?_ _));exact Bb.out) hb);have n11_:=Am (bP (by repeat (first|(with_reducible first|exact HB.out|apply oA|apply pN|apply o1|refine bS ?_ Bs.out|refine bS ?_ Bw.out)|exact HB.out)) hb);clear Bp Bq Br Bt Bu Bv Bc Bb HB;revert n0_ n1_ n2_ n3_ n4_ n5_ n6_ n7_ n8_ n9_ n10_ n11_;intro Bp Bq Br Bt Bu Bv Bx By Bz Bc Bb HB;(try clear hb);(try clear hb2);(try clear hk);(try clear hi);(try clear ho0);(try clear ho1);(try clear ho2))|((with_reducible refine gD (N:=5) rfl ?_);refine bI ?hg (N:=5) ?hd (cs:=#[.slice none 0 0,.slice none 0 0,.slice none 0 0]) (t:=26) ?hr ?_;(case hd=>rfl);(case hg=>rfl);(case hr=>first|(go_simp;done)|(go_simp;rfl));intro Be hg w23 hbox hb;have n0_:=Am (Kd.Q_below (qL Bp.out) hb);have n1_:=Am (rB (rL Bq.out) hb);have n2_:=Am (rB (rL Br.out) hb);have n3_:=Am (rB (rL Bt.out) hb);have n4_:=Am (rB (rL Bu.out) hb);have n5_:=Am (rB (rL Bv.out) hb);have n6_:=Am (rB (rL Bx.out) hb);have n7_:=Am (rB (rL By.out) hb);have n8_:=Am (rB (rL Bz.out) hb);have n9_:=Am (bX Bc.out hb);have n10_:=Am (bX Bb.out hb);have n11_:=Am (bP (by repeat (first|(with_reducible first|exact HB.out|apply oA|apply pN|apply o1|refine bS ?_ Bs.out|refine bS ?_ Bw.out)|exact HB.out)) hb);have n12_:=Am (hbox);have n13_:=Am ((by rw [hg];exact (bZ (by repeat (first|(with_reducible first|exact HB.out|apply oA|apply pN|apply o1|refine bS ?_ Bs.out|refine bS ?_ Bw.out)|exact HB.out))):w.heap.size≤Be));have n14_:=Am ((by rw [hg];exact (bZ (by repeat (first|(with_reducible first|exact HB.out|apply oA|apply pN|apply o1|refine bS ?_ Bs.out|refine bS ?_ Bw.out)|exact HB.out))):w.heap.size≤Be));have n15_:=Am ((nL Bc.out hg));have n16_:=Am ((nG Bc.out hg));have n17_:=Am ((nL Bb.out hg));have n18_:=Am ((nG Bb.out hg));clear Bp Bq Br Bt Bu Bv Bx By Bz Bc Bb HB;revert n0_ n1_ n2_ n3_ n4_ n5_ n6_ n7_ n8_ n9_ n10_ n11_ n12_ n13_ n14_ n15_ n16_ n17_ n18_;intro Bp Bq Br Bt Bu Bv Bx By Bz Bc Bb HB Bi Dp BA BC BH BI Dj;clear hb hbox hg;obtain ⟨Ao24,co24,eo24⟩:=rC Bx.out;subst eo24;have Dq:=BH.out;have Dr:=BC.out;have Ds:=Dj.out;have Dt:=BI.out;have B1:=cz0 Bi.out;have B2:=cz1 Bi.out;have B3:=cz2 Bi.out;have B4:=bF Bi.out 0;have B5:=bF Bi.out 1;have B6:=bF Bi.out 2;obtain ⟨Ao28,co28,eo28⟩:=rC By.out;subst eo28;obtain ⟨Ao29,co29,eo29⟩:=rC Bz.out;subst eo29;have B7:=cz0 Bb.out;have B8:=cz1 Bb.out;have B9:=cz2 Bb.out;have Da:=bF Bb.out 0;have Db:=bF Bb.out 1;have Dc:=bF Bb.out 2)|((with_reducible refine gC (f:=14) rfl ?_);refine goesL_ (some 19) rfl rfl Try.func14 (by kernel_rfl) rfl #[.agg #[.slice Ao16 t277.length co16,.slice Ao19 t280.length co19,.slice Ao20 t283.length co20],.agg #[.slice Ao24 t287.length co24,.slice Ao28 t290.length co28,.slice Ao29 t293.length co29]] rfl (by (try simp only [lM,lC,lN]);first|done|rfl|(simp only [lD,lT];rfl)) ?_;(with_reducible refine (laws_qdSigs.calls k _ _ t277 _ _ t280 _ _ t283 _ _ t287 _ _ t290 _ _ t293 t297 _ ?side1 ?side2 ?side3 ?side4 ?side5 ?side6 ?side7 ?side8 ?side9 ?side10 ?side11 ?side12 A6.out).mono ?_);(case side1=>refine (rR (e:=4) (base:=w.heap.size) (ok:=fun k_=>((((some k_≠(.slice Ao19 t280.length co19:Value).ownBlock∧some k_≠(.slice Ao10 t267.length co10:Value).ownBlock)∧some k_≠(.slice Ao12 t270.length co12:Value).ownBlock)∧some k_≠(.slice Ao24 t287.length co24:Value).ownBlock)∧some k_≠(.slice Ao28 t290.length co28:Value).ownBlock)) (n:=t277.length) (c:=co16) ?_).2.2;exact (by (with_reducible repeat (first|apply rA|apply rN|apply rD));exact (rM (rF (p:=⟨Be,2,none⟩) (rF (p:=⟨Be,1,none⟩) (rF (p:=⟨Be,0,none⟩) (rT Bt.out Bi.out (by decide)) (fun _ hk=>hk.2) (.slice Ao24 t287.length co24)) (fun _ hk=>hk.2) (.slice Ao28 t290.length co28)) (fun _ hk=>hk.2) (.slice Ao29 t293.length co29)) (fun _ h_=>h_.1))));(case side2=>exact (rR Bt.out).2.1);(case side3=>refine (rR (e:=4) (base:=w.heap.size) (ok:=fun k_=>((((some k_≠(.slice Ao16 t277.length co16:Value).ownBlock∧some k_≠(.slice Ao10 t267.length co10:Value).ownBlock)∧some k_≠(.slice Ao12 t270.length co12:Value).ownBlock)∧some k_≠(.slice Ao24 t287.length co24:Value).ownBlock)∧some k_≠(.slice Ao28 t290.length co28:Value).ownBlock)) (n:=t280.length) (c:=co19) ?_).2.2;exact (by (with_reducible repeat (first|apply rA|apply rN|apply rD));exact (rM (rF (p:=⟨Be,2,none⟩) (rF (p:=⟨Be,1,none⟩) (rF (p:=⟨Be,0,none⟩) (rT Bu.out Bi.out (by decide)) (fun _ hk=>hk.2) (.slice Ao24 t287.length co24)) (fun _ hk=>hk.2) (.slice Ao28 t290.length co28)) (fun _ hk=>hk.2) (.slice Ao29 t293.length co29)) (fun _ h_=>h_.1))));(case side4=>exact (rR Bu.out).2.1);(case side5=>refine (rR (e:=3) (base:=w.heap.size) (ok:=fun k_=>((True∧some k_≠(.slice Ao13 t273.length co13:Value).ownBlock)∧some k_≠(.slice Ao29 t293.length co29:Value).ownBlock)) (n:=t283.length) (c:=co20) ?_).2.2;exact (by (with_reducible repeat (first|apply rA|apply rN|apply rD));exact (rM (rF (p:=⟨Be,2,none⟩) (rF (p:=⟨Be,1,none⟩) (rF (p:=⟨Be,0,none⟩) (rT Bv.out Bi.out (by decide)) (fun _ hk=>hk.2) (.slice Ao24 t287.length co24)) (fun _ hk=>hk.2) (.slice Ao28 t290.length co28)) (fun _ hk=>hk.2) (.slice Ao29 t293.length co29)) (fun _ h_=>h_.1))));(case side6=>exact (rR Bv.out).2.1);(case side7=>refine (rR (e:=4) (base:=w.heap.size) (ok:=fun k_=>((((some k_≠(.slice Ao28 t290.length co28:Value).ownBlock∧some k_≠(.slice Ao10 t267.length co10:Value).ownBlock)∧some k_≠(.slice Ao12 t270.length co12:Value).ownBlock)∧some k_≠(.slice Ao16 t277.length co16:Value).ownBlock)∧some k_≠(.slice Ao19 t280.length co19:Value).ownBlock)) (n:=t287.length) (c:=co24) ?_).2.2;exact (by (with_reducible repeat (first|apply rA|apply rN|apply rD));exact (rM (rF (p:=⟨Be,2,none⟩) (rF (p:=⟨Be,1,none⟩) (rF (p:=⟨Be,0,none⟩) (rT Bx.out Bi.out (by decide)) (fun _ hk=>hk.2) (.slice Ao24 t287.length co24)) (fun _ hk=>hk.2) (.slice Ao28 t290.length co28)) (fun _ hk=>hk.2) (.slice Ao29 t293.length co29)) (fun _ h_=>h_.1))));(case side8=>exact (rR Bx.out).2.1);(case side9=>refine (rR (e:=4) (base:=w.heap.size) (ok:=fun k_=>((((some k_≠(.slice Ao24 t287.length co24:Value).ownBlock∧some k_≠(.slice Ao10 t267.length co10:Value).ownBlock)∧some k_≠(.slice Ao12 t270.length co12:Value).ownBlock)∧some k_≠(.slice Ao16 t277.length co16:Value).ownBlock)∧some k_≠(.slice Ao19 t280.length co19:Value).ownBlock)) (n:=t290.length) (c:=co28) ?_).2.2;exact (by (with_reducible repeat (first|apply rA|apply rN|apply rD));exact (rM (rF (p:=⟨Be,2,none⟩) (rF (p:=⟨Be,1,none⟩) (rF (p:=⟨Be,0,none⟩) (rT By.out Bi.out (by decide)) (fun _ hk=>hk.2) (.slice Ao24 t287.length co24)) (fun _ hk=>hk.2) (.slice Ao28 t290.length co28)) (fun _ hk=>hk.2) (.slice Ao29 t293.length co29)) (fun _ h_=>h_.1))));(case side10=>exact (rR By.out).2.1);(case side11=>refine (rR (e:=3) (base:=w.heap.size) (ok:=fun k_=>((True∧some k_≠(.slice Ao13 t273.length co13:Value).ownBlock)∧some k_≠(.slice Ao20 t283.length co20:Value).ownBlock)) (n:=t293.length) (c:=co29) ?_).2.2;exact (by (with_reducible repeat (first|apply rA|apply rN|apply rD));exact (rM (rF (p:=⟨Be,2,none⟩) (rF (p:=⟨Be,1,none⟩) (rF (p:=⟨Be,0,none⟩) (rT Bz.out Bi.out (by decide)) (fun _ hk=>hk.2) (.slice Ao24 t287.length co24)) (fun _ hk=>hk.2) (.slice Ao28 t290.length co28)) (fun _ hk=>hk.2) (.slice Ao29 t293.length co29)) (fun _ h_=>h_.1))));(case side12=>exact (rR Bz.out).2.1);rintro e w31 ⟨rfl,hb⟩;refine ⟨_,rfl,?_⟩;have n0_:=Am (Kd.Q_below (by (with_reducible repeat (first|apply Kd.Q_alloc|apply Kd.Q_drewN|apply Kd.Q_drew));exact (qM (Kd.Q_far (p:=⟨Be,2,none⟩) (Kd.Q_far (p:=⟨Be,1,none⟩) (Kd.Q_far (p:=⟨Be,0,none⟩) (Kd.Q_types Bp.out Bi.out (by decide)) (fun _ hk=>hk.2) (.slice Ao24 t287.length co24)) (fun _ hk=>hk.2) (.slice Ao28 t290.length co28)) (fun _ hk=>hk.2) (.slice Ao29 t293.length co29)) (fun _ h_=>h_.1))) hb);have n1_:=Am (rB (by (with_reducible repeat (first|apply rA|apply rN|apply rD));exact (rM (rF (p:=⟨Be,2,none⟩) (rF (p:=⟨Be,1,none⟩) (rF (p:=⟨Be,0,none⟩) (rT Bq.out Bi.out (by decide)) (fun _ hk=>hk.2) (.slice Ao24 t287.length co24)) (fun _ hk=>hk.2) (.slice Ao28 t290.length co28)) (fun _ hk=>hk.2) (.slice Ao29 t293.length co29)) (fun _ h_=>h_.1))) hb);have n2_:=Am (rB (by (with_reducible repeat (first|apply rA|apply rN|apply rD));exact (rM (rF (p:=⟨Be,2,none⟩) (rF (p:=⟨Be,1,none⟩) (rF (p:=⟨Be,0,none⟩) (rT Br.out Bi.out (by decide)) (fun _ hk=>hk.2) (.slice Ao24 t287.length co24)) (fun _ hk=>hk.2) (.slice Ao28 t290.length co28)) (fun _ hk=>hk.2) (.slice Ao29 t293.length co29)) (fun _ h_=>h_.1))) hb);have n3_:=Am (rB (by (with_reducible repeat (first|apply rA|apply rN|apply rD));exact (rM (rF (p:=⟨Be,2,none⟩) (rF (p:=⟨Be,1,none⟩) (rF (p:=⟨Be,0,none⟩) (rT Bt.out Bi.out (by decide)) (fun _ hk=>hk.2) (.slice Ao24 t287.length co24)) (fun _ hk=>hk.2) (.slice Ao28 t290.length co28)) (fun _ hk=>hk.2) (.slice Ao29 t293.length co29)) (fun _ h_=>h_.1))) hb);have n4_:=Am (rB (by (with_reducible repeat (first|apply rA|apply rN|apply rD));exact (rM (rF (p:=⟨Be,2,none⟩) (rF (p:=⟨Be,1,none⟩) (rF (p:=⟨Be,0,none⟩) (rT Bu.out Bi.out (by decide)) (fun _ hk=>hk.2) (.slice Ao24 t287.length co24)) (fun _ hk=>hk.2) (.slice Ao28 t290.length co28)) (fun _ hk=>hk.2) (.slice Ao29 t293.length co29)) (fun _ h_=>h_.1))) hb);have n5_:=Am (rB (by (with_reducible repeat (first|apply rA|apply rN|apply rD));exact (rM (rF (p:=⟨Be,2,none⟩) (rF (p:=⟨Be,1,none⟩) (rF (p:=⟨Be,0,none⟩) (rT Bv.out Bi.out (by decide)) (fun _ hk=>hk.2) (.slice Ao24 t287.length co24)) (fun _ hk=>hk.2) (.slice Ao28 t290.length co28)) (fun _ hk=>hk.2) (.slice Ao29 t293.length co29)) (fun _ h_=>h_.1))) hb);have n6_:=Am (rB (by (with_reducible repeat (first|apply rA|apply rN|apply rD));exact (rM (rF (p:=⟨Be,2,none⟩) (rF (p:=⟨Be,1,none⟩) (rF (p:=⟨Be,0,none⟩) (rT Bx.out Bi.out (by decide)) (fun _ hk=>hk.2) (.slice Ao24 t287.length co24)) (fun _ hk=>hk.2) (.slice Ao28 t290.length co28)) (fun _ hk=>hk.2) (.slice Ao29 t293.length co29)) (fun _ h_=>h_.1))) hb);have n7_:=Am (rB (by (with_reducible repeat (first|apply rA|apply rN|apply rD));exact (rM (rF (p:=⟨Be,2,none⟩) (rF (p:=⟨Be,1,none⟩) (rF (p:=⟨Be,0,none⟩) (rT By.out Bi.out (by decide)) (fun _ hk=>hk.2) (.slice Ao24 t287.length co24)) (fun _ hk=>hk.2) (.slice Ao28 t290.length co28)) (fun _ hk=>hk.2) (.slice Ao29 t293.length co29)) (fun _ h_=>h_.1))) hb);have n8_:=Am (rB (by (with_reducible repeat (first|apply rA|apply rN|apply rD));exact (rM (rF (p:=⟨Be,2,none⟩) (rF (p:=⟨Be,1,none⟩) (rF (p:=⟨Be,0,none⟩) (rT Bz.out Bi.out (by decide)) (fun _ hk=>hk.2) (.slice Ao24 t287.length co24)) (fun _ hk=>hk.2) (.slice Ao28 t290.length co28)) (fun _ hk=>hk.2) (.slice Ao29 t293.length co29)) (fun _ h_=>h_.1))) hb);have n9_:=Am (bB (g:=Bd) (o:=.cells #[.slice Ao10 t267.length co10,.slice Ao12 t270.length co12,.slice Ao13 t273.length co13] 26 (0,0)) (by (with_reducible repeat (first|refine bN ?_ _|refine bD ?_|refine bA ?_ _|refine bE ?_ BC.out _));exact Bc.out) hb);have n10_:=Am (bB (g:=Ba) (o:=.cells #[.slice Ao16 t277.length co16,.slice Ao19 t280.length co19,.slice Ao20 t283.length co20] 26 (0,0)) (by (with_reducible repeat (first|refine bN ?_ _|refine bD ?_|refine bA ?_ _|refine bE ?_ BI.out _));exact Bb.out) hb);have n11_:=Am (bB (g:=Be) (o:=.cells #[.slice Ao24 t287.length co24,.slice Ao28 t290.length co28,.slice Ao29 t293.length co29] 26 (0,0)) (by (with_reducible repeat (first|refine bN ?_ _|refine bD ?_|refine bA ?_ _));refine bT (cs:=#[.slice Ao24 t287.length co24,.slice Ao28 t290.length co28,.slice none 0 0]) ?_ 2 _ rfl;(with_reducible repeat (first|refine bN ?_ _|refine bD ?_|refine bA ?_ _));refine bT (cs:=#[.slice Ao24 t287.length co24,.slice none 0 0,.slice none 0 0]) ?_ 1 _ rfl;(with_reducible repeat (first|refine bN ?_ _|refine bD ?_|refine bA ?_ _));refine bT (cs:=#[.slice none 0 0,.slice none 0 0,.slice none 0 0]) ?_ 0 _ rfl;(with_reducible repeat (first|refine bN ?_ _|refine bD ?_|refine bA ?_ _));exact Bi.out) hb);have n12_:=Am (bP (by repeat (first|(with_reducible first|exact HB.out|apply oA|apply pN|apply o1|refine bS ?_ Bs.out|refine bS ?_ Bw.out|refine bS ?_ BA.out)|exact HB.out)) hb);clear Bp Bq Br Bt Bu Bv Bx By Bz Bc Bb Bi HB;revert n0_ n1_ n2_ n3_ n4_ n5_ n6_ n7_ n8_ n9_ n10_ n11_ n12_;intro Bp Bq Br Bt Bu Bv Bx By Bz Bc Bb Bi HB;(try clear hb);(try clear hb2);(try clear hk);(try clear hi)))
 (try simp only [Act.put,lA,lZ,lS])
 go_cut [26] (fun v26 wc=>∃ (kq:Nat) (x26_6:Bool),v26=.bool x26_6∧Aside0 (laws_FnSigsRun.j0 kq t297 x26_6 t267 t270 t273 t277 t280 t283=some r)∧Aside0 (kq≤k)∧Aside0 (Kd.Q Kd.bool 4 wc w.heap.size (fun k_=>some k_≠((.slice Ao12 t270.length co12):Value).ownBlock∧some k_≠((.slice Ao16 t277.length co16):Value).ownBlock∧some k_≠((.slice Ao19 t280.length co19):Value).ownBlock∧some k_≠((.slice Ao24 t287.length co24):Value).ownBlock∧some k_≠((.slice Ao28 t290.length co28):Value).ownBlock) (.slice Ao10 t267.length co10) t267)∧Aside0 (Kd.R Kd.bool 4 wc w.heap.size (fun k_=>some k_≠((.slice Ao10 t267.length co10):Value).ownBlock∧some k_≠((.slice Ao16 t277.length co16):Value).ownBlock∧some k_≠((.slice Ao19 t280.length co19):Value).ownBlock∧some k_≠((.slice Ao24 t287.length co24):Value).ownBlock∧some k_≠((.slice Ao28 t290.length co28):Value).ownBlock) (.slice Ao12 t270.length co12) t270)∧Aside0 (Kd.R (Kd.int .i64) 3 wc w.heap.size (fun k_=>some k_≠((.slice Ao20 t283.length co20):Value).ownBlock∧some k_≠((.slice Ao29 t293.length co29):Value).ownBlock) (.slice Ao13 t273.length co13) t273)∧Aside0 (Kd.Q Kd.bool 4 wc w.heap.size (fun k_=>some k_≠((.slice Ao10 t267.length co10):Value).ownBlock∧some k_≠((.slice Ao12 t270.length co12):Value).ownBlock∧some k_≠((.slice Ao19 t280.length co19):Value).ownBlock∧some k_≠((.slice Ao24 t287.length co24):Value).ownBlock∧some k_≠((.slice Ao28 t290.length co28):Value).ownBlock) (.slice Ao16 t277.length co16) t277)∧Aside0 (Kd.R Kd.bool 4 wc w.heap.size (fun k_=>some k_≠((.slice Ao10 t267.length co10):Value).ownBlock∧some k_≠((.slice Ao12 t270.length co12):Value).ownBlock∧some k_≠((.slice Ao16 t277.length co16):Value).ownBlock∧some k_≠((.slice Ao24 t287.length co24):Value).ownBlock∧some k_≠((.slice Ao28 t290.length co28):Value).ownBlock) (.slice Ao19 t280.length co19) t280)∧Aside0 (Kd.R (Kd.int .i64) 3 wc w.heap.size (fun k_=>some k_≠((.slice Ao13 t273.length co13):Value).ownBlock∧some k_≠((.slice Ao29 t293.length co29):Value).ownBlock) (.slice Ao20 t283.length co20) t283)∧Aside0 (Kd.Q Kd.bool 4 wc w.heap.size (fun k_=>some k_≠((.slice Ao10 t267.length co10):Value).ownBlock∧some k_≠((.slice Ao12 t270.length co12):Value).ownBlock∧some k_≠((.slice Ao16 t277.length co16):Value).ownBlock∧some k_≠((.slice Ao19 t280.length co19):Value).ownBlock∧some k_≠((.slice Ao28 t290.length co28):Value).ownBlock) (.slice Ao24 t287.length co24) t287)∧Aside0 (Kd.R Kd.bool 4 wc w.heap.size (fun k_=>some k_≠((.slice Ao10 t267.length co10):Value).ownBlock∧some k_≠((.slice Ao12 t270.length co12):Value).ownBlock∧some k_≠((.slice Ao16 t277.length co16):Value).ownBlock∧some k_≠((.slice Ao19 t280.length co19):Value).ownBlock∧some k_≠((.slice Ao24 t287.length co24):Value).ownBlock) (.slice Ao28 t290.length co28) t290)∧Aside0 (Kd.R (Kd.int .i64) 3 wc w.heap.size (fun k_=>some k_≠((.slice Ao13 t273.length co13):Value).ownBlock∧some k_≠((.slice Ao20 t283.length co20):Value).ownBlock) (.slice Ao29 t293.length co29) t293)∧Aside0 (wc.heap[Bd]?=some (.cells #[(.slice Ao10 t267.length co10),(.slice Ao12 t270.length co12),(.slice Ao13 t273.length co13)] 26 (0,0)))∧Aside0 (wc.heap[Ba]?=some (.cells #[(.slice Ao16 t277.length co16),(.slice Ao19 t280.length co19),(.slice Ao20 t283.length co20)] 26 (0,0)))∧Aside0 (wc.heap[Be]?=some (.cells #[(.slice Ao24 t287.length co24),(.slice Ao28 t290.length co28),(.slice Ao29 t293.length co29)] 26 (0,0)))∧Aside0 (Below w.heap.size w wc))
 case first =>
  have H:=HC7.out
  clear HC7
  by_cases c32:t297=true
  rotate_left
  ·replace c32:=Bool.eq_false_iff.mpr c32
   subst c32
   have H1:(laws_FnSigsRun.j0 k false true t267 t270 t273 t277 t280 t283)=some r:=by rw [if_neg (show ¬ (false=true) by decide)] at H;exact H
   clear H
   have H:=H1
   clear H1
   have H':=Am H
   clear H
   go_wp2
   go_meet
   case rel=>exact ⟨_,(true),(by first|rfl|(simp;done)|(simp [*];done)),H',⟨by first|omega|exact nR _⟩,⟨by (with_reducible repeat (first|apply Kd.Q_alloc|apply Kd.Q_drewN|apply Kd.Q_drew));exact qM Bp.out (fun _ hk=>⟨hk.1.1.1.1,⟨hk.1.1.1.2,⟨hk.1.1.2,⟨hk.1.2,hk.2⟩⟩⟩⟩)⟩,⟨by (with_reducible repeat (first|apply rA|apply rN|apply rD));exact rM Bq.out (fun _ hk=>⟨hk.1.1.1.1,⟨hk.1.1.1.2,⟨hk.1.1.2,⟨hk.1.2,hk.2⟩⟩⟩⟩)⟩,⟨by (with_reducible repeat (first|apply rA|apply rN|apply rD));exact rM Br.out (fun _ hk=>⟨hk.1.2,hk.2⟩)⟩,⟨Kd.Q_of_R (by (with_reducible repeat (first|apply rA|apply rN|apply rD));exact rM Bt.out (fun _ hk=>⟨hk.1.1.1.2,⟨hk.1.1.2,⟨hk.1.1.1.1,⟨hk.1.2,hk.2⟩⟩⟩⟩))⟩,⟨by (with_reducible repeat (first|apply rA|apply rN|apply rD));exact rM Bu.out (fun _ hk=>⟨hk.1.1.1.2,⟨hk.1.1.2,⟨hk.1.1.1.1,⟨hk.1.2,hk.2⟩⟩⟩⟩)⟩,⟨by (with_reducible repeat (first|apply rA|apply rN|apply rD));exact rM Bv.out (fun _ hk=>⟨hk.1.2,hk.2⟩)⟩,⟨Kd.Q_of_R (by (with_reducible repeat (first|apply rA|apply rN|apply rD));exact rM Bx.out (fun _ hk=>⟨hk.1.1.1.2,⟨hk.1.1.2,⟨hk.1.2,⟨hk.2,hk.1.1.1.1⟩⟩⟩⟩))⟩,⟨by (with_reducible repeat (first|apply rA|apply rN|apply rD));exact rM By.out (fun _ hk=>⟨hk.1.1.1.2,⟨hk.1.1.2,⟨hk.1.2,⟨hk.2,hk.1.1.1.1⟩⟩⟩⟩)⟩,⟨by (with_reducible repeat (first|apply rA|apply rN|apply rD));exact rM Bz.out (fun _ hk=>⟨hk.1.2,hk.2⟩)⟩,⟨by (with_reducible repeat (first|refine bN ?_ _|refine bD ?_|refine bA ?_ _));exact Bc.out⟩,⟨by (with_reducible repeat (first|refine bN ?_ _|refine bD ?_|refine bA ?_ _));exact Bb.out⟩,⟨by (with_reducible repeat (first|refine bN ?_ _|refine bD ?_|refine bA ?_ _));exact Bi.out⟩,⟨by repeat (first|(with_reducible first|exact HB.out|apply oA|apply pN|apply o1|refine bS ?_ Bs.out|refine bS ?_ Bw.out|refine bS ?_ BA.out)|exact HB.out)⟩⟩
  subst c32
  have H1:((impl_SigsOk.f k t267 t270 t273).bind fun t298=>(laws_FnSigsRun.j0 k true (!t298) t267 t270 t273 t277 t280 t283))=some r:=by rw [if_pos rfl] at H;exact H
  clear H
  have H:=H1
  clear H1
  replace H:=oC H
  obtain ⟨t298,A330,H⟩:=H
  replace H:(laws_FnSigsRun.j0 k true (!t298) t267 t270 t273 t277 t280 t283)=some r:=H
  have A33:=Am A330
  clear A330
  have H':=Am H
  clear H
  have Du:=BB.out
  have Dv:=BG.out
  have Dw:=BC.out
  have Dx:=BH.out
  have Dd:=cz0 Bc.out
  have De:=cz1 Bc.out
  have Df:=cz2 Bc.out
  have Dg:=bF Bc.out 0
  have Dh:=bF Bc.out 1
  have Di:=bF Bc.out 2
  go_wp2_with (first|(go_at_call 16;(with_reducible refine (impl_SigsOk.calls k _ _ t267 _ _ t270 _ _ t273 t298 _ ?side1 ?side2 ?side3 ?side4 ?side5 ?side6 A33.out).mono ?_);(case side1=>exact cL (qR Bp.out).2.2);(case side2=>exact (qR Bp.out).2.1);(case side3=>exact cL (rR Bq.out).2.2);(case side4=>exact (rR Bq.out).2.1);(case side5=>exact cL (rR Br.out).2.2);(case side6=>exact (rR Br.out).2.1);rintro e w37 ⟨rfl,hb⟩;have n0_:=Am (Kd.Q_below (qL Bp.out) hb);have n1_:=Am (rB (rL Bq.out) hb);have n2_:=Am (rB (rL Br.out) hb);have n3_:=Am (rB (rL Bt.out) hb);have n4_:=Am (rB (rL Bu.out) hb);have n5_:=Am (rB (rL Bv.out) hb);have n6_:=Am (rB (rL Bx.out) hb);have n7_:=Am (rB (rL By.out) hb);have n8_:=Am (rB (rL Bz.out) hb);have n9_:=Am (bX Bc.out hb);have n10_:=Am (bX Bb.out hb);have n11_:=Am (bX Bi.out hb);have n12_:=Am (bP (by repeat (first|(with_reducible first|exact HB.out|apply oA|apply pN|apply o1|refine bS ?_ Bs.out|refine bS ?_ Bw.out|refine bS ?_ BA.out)|exact HB.out)) hb);clear Bp Bq Br Bt Bu Bv Bx By Bz Bc Bb Bi HB;revert n0_ n1_ n2_ n3_ n4_ n5_ n6_ n7_ n8_ n9_ n10_ n11_ n12_;intro Bp Bq Br Bt Bu Bv Bx By Bz Bc Bb Bi HB;(try clear hb);(try clear hb2);(try clear hk);(try clear hi)))
  go_meet
  case rel=>exact ⟨_,(!t298),(by first|rfl|(simp;done)|(simp [*];done)),H',⟨by first|omega|exact nR _⟩,⟨by (with_reducible repeat (first|apply Kd.Q_alloc|apply Kd.Q_drewN|apply Kd.Q_drew));exact qM Bp.out (fun _ hk=>⟨hk.1.1.1.1,⟨hk.1.1.1.2,⟨hk.1.1.2,⟨hk.1.2,hk.2⟩⟩⟩⟩)⟩,⟨by (with_reducible repeat (first|apply rA|apply rN|apply rD));exact rM Bq.out (fun _ hk=>⟨hk.1.1.1.1,⟨hk.1.1.1.2,⟨hk.1.1.2,⟨hk.1.2,hk.2⟩⟩⟩⟩)⟩,⟨by (with_reducible repeat (first|apply rA|apply rN|apply rD));exact rM Br.out (fun _ hk=>⟨hk.1.2,hk.2⟩)⟩,⟨Kd.Q_of_R (by (with_reducible repeat (first|apply rA|apply rN|apply rD));exact rM Bt.out (fun _ hk=>⟨hk.1.1.1.2,⟨hk.1.1.2,⟨hk.1.1.1.1,⟨hk.1.2,hk.2⟩⟩⟩⟩))⟩,⟨by (with_reducible repeat (first|apply rA|apply rN|apply rD));exact rM Bu.out (fun _ hk=>⟨hk.1.1.1.2,⟨hk.1.1.2,⟨hk.1.1.1.1,⟨hk.1.2,hk.2⟩⟩⟩⟩)⟩,⟨by (with_reducible repeat (first|apply rA|apply rN|apply rD));exact rM Bv.out (fun _ hk=>⟨hk.1.2,hk.2⟩)⟩,⟨Kd.Q_of_R (by (with_reducible repeat (first|apply rA|apply rN|apply rD));exact rM Bx.out (fun _ hk=>⟨hk.1.1.1.2,⟨hk.1.1.2,⟨hk.1.2,⟨hk.2,hk.1.1.1.1⟩⟩⟩⟩))⟩,⟨by (with_reducible repeat (first|apply rA|apply rN|apply rD));exact rM By.out (fun _ hk=>⟨hk.1.1.1.2,⟨hk.1.1.2,⟨hk.1.2,⟨hk.2,hk.1.1.1.1⟩⟩⟩⟩)⟩,⟨by (with_reducible repeat (first|apply rA|apply rN|apply rD));exact rM Bz.out (fun _ hk=>⟨hk.1.2,hk.2⟩)⟩,⟨by (with_reducible repeat (first|refine bN ?_ _|refine bD ?_|refine bA ?_ _));exact Bc.out⟩,⟨by (with_reducible repeat (first|refine bN ?_ _|refine bD ?_|refine bA ?_ _));exact Bb.out⟩,⟨by (with_reducible repeat (first|refine bN ?_ _|refine bD ?_|refine bA ?_ _));exact Bi.out⟩,⟨by repeat (first|(with_reducible first|exact HB.out|apply oA|apply pN|apply o1|refine bS ?_ Bs.out|refine bS ?_ Bw.out|refine bS ?_ BA.out)|exact HB.out)⟩⟩
 case rest =>
  clear HC7
  try clear c1
  try clear c2
  try clear c2b0
  try clear c2b1
  try clear p2
  try clear c3
  try clear c8
  try clear c14
  try clear c17
  try clear c25
  try clear c26
  try clear c30
  try clear c31
  try clear c32
  try clear c34
  try clear c35
  try clear BJ
  try clear BK
  try clear BL
  try clear BP
  try clear BQ
  try clear BR
  try clear BV
  try clear BW
  try clear BX
  try clear B1
  try clear B2
  try clear B3
  try clear B7
  try clear B8
  try clear B9
  try clear Dd
  try clear De
  try clear Df
  try clear BM
  try clear BN
  try clear BO
  try clear BS
  try clear BT
  try clear BU
  try clear BY
  try clear BZ
  try clear B0
  try clear B4
  try clear B5
  try clear B6
  try clear Da
  try clear Db
  try clear Dc
  try clear Dg
  try clear Dh
  try clear Di
  obtain ⟨kq,x26_6,rfl,HA,Dk,Bj,Bk,Bl,Bg,Bh,Bf,Bm,Bn,Bo,Bc,Bb,Bi,HB⟩:=hcut
  cases kq with
 |zero=>exact absurd HA.out (by simp [laws_FnSigsRun.j0])
 |succ kj6 =>
   have H:=HA.out
   clear HA
   simp only [laws_FnSigsRun.j0] at H
   by_cases c38:x26_6=true
   ·subst c38
    have H1:(some t297)=some r:=by rw [if_pos rfl] at H;exact H
    clear H
    have H:=H1
    clear H1
    obtain rfl:=oJ H
    go_wp2
    go_ret
    exact ⟨by first|rfl|(simp [errW_none,errW_some] <;> rfl)|(simp [*,errW_none,errW_some] <;> rfl),by repeat (first|(with_reducible first|exact HB.out|apply oA|apply pN|apply o1|refine bS ?_ Bs.out|refine bS ?_ Bw.out|refine bS ?_ BA.out)|exact HB.out)⟩
   replace c38:=Bool.eq_false_iff.mpr c38
   subst c38
   have H1:(laws_FnSigsRun.l0 kj6 0 t267 t270 t273 t277 t280 t283)=some r:=by rw [if_neg (show ¬ (false=true) by decide)] at H;exact H
   clear H
   have H:=H1
   clear H1
   have H':=Am H
   clear H
   go_wp2
   go_loopg [7] kj6 (fun kq v7 w'=>∃ (x7_2:Int),v7=.int .i64 x7_2∧Aside0 (laws_FnSigsRun.l0 kq x7_2 t267 t270 t273 t277 t280 t283=some r)∧Aside0 (kq≤kj6)∧Aside0 (Kd.Q Kd.bool 4 w' w.heap.size (fun k_=>some k_≠((.slice Ao12 t270.length co12):Value).ownBlock∧some k_≠((.slice Ao16 t277.length co16):Value).ownBlock∧some k_≠((.slice Ao19 t280.length co19):Value).ownBlock∧some k_≠((.slice Ao24 t287.length co24):Value).ownBlock∧some k_≠((.slice Ao28 t290.length co28):Value).ownBlock) (.slice Ao10 t267.length co10) t267)∧Aside0 (Kd.R Kd.bool 4 w' w.heap.size (fun k_=>some k_≠((.slice Ao10 t267.length co10):Value).ownBlock∧some k_≠((.slice Ao16 t277.length co16):Value).ownBlock∧some k_≠((.slice Ao19 t280.length co19):Value).ownBlock∧some k_≠((.slice Ao24 t287.length co24):Value).ownBlock∧some k_≠((.slice Ao28 t290.length co28):Value).ownBlock) (.slice Ao12 t270.length co12) t270)∧Aside0 (Kd.R (Kd.int .i64) 3 w' w.heap.size (fun k_=>some k_≠((.slice Ao20 t283.length co20):Value).ownBlock∧some k_≠((.slice Ao29 t293.length co29):Value).ownBlock) (.slice Ao13 t273.length co13) t273)∧Aside0 (Kd.Q Kd.bool 4 w' w.heap.size (fun k_=>some k_≠((.slice Ao10 t267.length co10):Value).ownBlock∧some k_≠((.slice Ao12 t270.length co12):Value).ownBlock∧some k_≠((.slice Ao19 t280.length co19):Value).ownBlock∧some k_≠((.slice Ao24 t287.length co24):Value).ownBlock∧some k_≠((.slice Ao28 t290.length co28):Value).ownBlock) (.slice Ao16 t277.length co16) t277)∧Aside0 (Kd.R Kd.bool 4 w' w.heap.size (fun k_=>some k_≠((.slice Ao10 t267.length co10):Value).ownBlock∧some k_≠((.slice Ao12 t270.length co12):Value).ownBlock∧some k_≠((.slice Ao16 t277.length co16):Value).ownBlock∧some k_≠((.slice Ao24 t287.length co24):Value).ownBlock∧some k_≠((.slice Ao28 t290.length co28):Value).ownBlock) (.slice Ao19 t280.length co19) t280)∧Aside0 (Kd.R (Kd.int .i64) 3 w' w.heap.size (fun k_=>some k_≠((.slice Ao13 t273.length co13):Value).ownBlock∧some k_≠((.slice Ao29 t293.length co29):Value).ownBlock) (.slice Ao20 t283.length co20) t283)∧Aside0 (Kd.Q Kd.bool 4 w' w.heap.size (fun k_=>some k_≠((.slice Ao10 t267.length co10):Value).ownBlock∧some k_≠((.slice Ao12 t270.length co12):Value).ownBlock∧some k_≠((.slice Ao16 t277.length co16):Value).ownBlock∧some k_≠((.slice Ao19 t280.length co19):Value).ownBlock∧some k_≠((.slice Ao28 t290.length co28):Value).ownBlock) (.slice Ao24 t287.length co24) t287)∧Aside0 (Kd.R Kd.bool 4 w' w.heap.size (fun k_=>some k_≠((.slice Ao10 t267.length co10):Value).ownBlock∧some k_≠((.slice Ao12 t270.length co12):Value).ownBlock∧some k_≠((.slice Ao16 t277.length co16):Value).ownBlock∧some k_≠((.slice Ao19 t280.length co19):Value).ownBlock∧some k_≠((.slice Ao24 t287.length co24):Value).ownBlock) (.slice Ao28 t290.length co28) t290)∧Aside0 (Kd.R (Kd.int .i64) 3 w' w.heap.size (fun k_=>some k_≠((.slice Ao13 t273.length co13):Value).ownBlock∧some k_≠((.slice Ao20 t283.length co20):Value).ownBlock) (.slice Ao29 t293.length co29) t293)∧Aside0 (w'.heap[Bd]?=some (.cells #[(.slice Ao10 t267.length co10),(.slice Ao12 t270.length co12),(.slice Ao13 t273.length co13)] 26 (0,0)))∧Aside0 (w'.heap[Ba]?=some (.cells #[(.slice Ao16 t277.length co16),(.slice Ao19 t280.length co19),(.slice Ao20 t283.length co20)] 26 (0,0)))∧Aside0 (w'.heap[Be]?=some (.cells #[(.slice Ao24 t287.length co24),(.slice Ao28 t290.length co28),(.slice Ao29 t293.length co29)] 26 (0,0)))∧Aside0 (Below w.heap.size w w'))
   case atStart=>exact ⟨(0),(by first|rfl|(simp;done)|(simp [*];done)),H',⟨nR _⟩,⟨by (with_reducible repeat (first|apply Kd.Q_alloc|apply Kd.Q_drewN|apply Kd.Q_drew));exact Bj.out⟩,⟨by (with_reducible repeat (first|apply rA|apply rN|apply rD));exact Bk.out⟩,⟨by (with_reducible repeat (first|apply rA|apply rN|apply rD));exact Bl.out⟩,⟨by (with_reducible repeat (first|apply Kd.Q_alloc|apply Kd.Q_drewN|apply Kd.Q_drew));exact Bg.out⟩,⟨by (with_reducible repeat (first|apply rA|apply rN|apply rD));exact Bh.out⟩,⟨by (with_reducible repeat (first|apply rA|apply rN|apply rD));exact Bf.out⟩,⟨by (with_reducible repeat (first|apply Kd.Q_alloc|apply Kd.Q_drewN|apply Kd.Q_drew));exact Bm.out⟩,⟨by (with_reducible repeat (first|apply rA|apply rN|apply rD));exact Bn.out⟩,⟨by (with_reducible repeat (first|apply rA|apply rN|apply rD));exact Bo.out⟩,⟨by (with_reducible repeat (first|refine bN ?_ _|refine bD ?_|refine bA ?_ _));exact Bc.out⟩,⟨by (with_reducible repeat (first|refine bN ?_ _|refine bD ?_|refine bA ?_ _));exact Bb.out⟩,⟨by (with_reducible repeat (first|refine bN ?_ _|refine bD ?_|refine bA ?_ _));exact Bi.out⟩,⟨by repeat (first|(with_reducible first|exact HB.out|apply oA|apply pN|apply o1|refine bS ?_ Bs.out|refine bS ?_ Bw.out|refine bS ?_ BA.out)|exact HB.out)⟩⟩
   case round =>
    clear H'
    try clear c1
    try clear c2
    try clear c2b0
    try clear c2b1
    try clear p2
    try clear c3
    try clear c8
    try clear c14
    try clear c17
    try clear c25
    try clear c26
    try clear c30
    try clear c31
    try clear c32
    try clear c34
    try clear c35
    try clear c38
    try clear BJ
    try clear BK
    try clear BL
    try clear BP
    try clear BQ
    try clear BR
    try clear BV
    try clear BW
    try clear BX
    try clear B1
    try clear B2
    try clear B3
    try clear B7
    try clear B8
    try clear B9
    try clear Dd
    try clear De
    try clear Df
    try clear BM
    try clear BN
    try clear BO
    try clear BS
    try clear BT
    try clear BU
    try clear BY
    try clear BZ
    try clear B0
    try clear B4
    try clear B5
    try clear B6
    try clear Da
    try clear Db
    try clear Dc
    try clear Dg
    try clear Dh
    try clear Di
    try clear p2
    obtain ⟨x7_2,rfl,HA,HK2,Bj,Bk,Bl,Bg,Bh,Bf,Bm,Bn,Bo,Bc,Bb,Bi,HB⟩:=hrel
    cases gk with
   |zero=>exact absurd HA.out (by simp [laws_FnSigsRun.l0])
   |succ k2 =>
     have H:=HA.out
     clear HA
     simp only [laws_FnSigsRun.l0] at H
     by_cases c39:x7_2<8
     ·rw [if_pos c39] at H
      have c39b0:decide (x7_2<8)=true:=dT c39
      clear c39
      by_cases c40:0≤x7_2
      rotate_left
      ·rw [if_neg c40] at H
       exact absurd H (by simp)
      rw [if_pos c40] at H
      have c40b0:decide (0≤x7_2)=true:=dT c40
      clear c40
      by_cases c41:x7_2<(t283.length:Int)
      rotate_left
      ·rw [if_neg c41] at H
       exact absurd H (by simp)
      rw [if_pos c41] at H
      have c41b0:decide (x7_2<(t283.length:Int))=true:=dT c41
      clear c41
      by_cases c42:(rd t283 x7_2)=4
      ·rw [if_pos c42] at H
       have c42b0:((rd t283 x7_2) == 4)=true:=beq_iff_eq.mpr c42
       have c42b1:((rd t283 x7_2) != 4)=false:=bne_eq_false_iff_eq.mpr c42
       clear c42
       exact absurd ((oJ H).trans hT_.out) (by decide)
      rw [if_neg c42] at H
      have c42b0:((rd t283 x7_2) == 4)=false:=beq_eq_false_iff_ne.mpr c42
      have c42b1:((rd t283 x7_2) != 4)=true:=bne_iff_ne.mpr c42
      by_cases c43:x7_2<(t273.length:Int)
      rotate_left
      ·rw [if_neg c43] at H
       exact absurd H (by simp)
      rw [if_pos c43] at H
      have c43b0:decide (x7_2<(t273.length:Int))=true:=dT c43
      clear c43
      by_cases c44:(((rd t283 x7_2) == 1) != ((rd t273 x7_2) == 1))=true
      ·rw [if_pos c44] at H
       have c44b0:(((rd t283 x7_2) == 1) != ((rd t273 x7_2) == 1))=true:=c44
       (try (have c44b1:decide (((rd t283 x7_2) == 1)=((rd t273 x7_2) == 1))=false:=by simpa using c44))
       (try (have c44b2:(((rd t283 x7_2) == 1) == ((rd t273 x7_2) == 1))=false:=by simpa using c44))
       (try (have c44b3:¬ (((rd t283 x7_2) == 1)=((rd t273 x7_2) == 1)):=by simpa using c44))
       clear c44
       exact absurd ((oJ H).trans hT_.out) (by decide)
      rw [if_neg c44] at H
      have c44b0:(((rd t283 x7_2) == 1) != ((rd t273 x7_2) == 1))=false:=by simpa using c44
      (try (have c44b1:decide (((rd t283 x7_2) == 1)=((rd t273 x7_2) == 1))=true:=by simpa using c44))
      (try (have c44b2:(((rd t283 x7_2) == 1) == ((rd t273 x7_2) == 1))=true:=by simpa using c44))
      clear c44
      have H':=Am H
      clear H
      try go_wp2
      have n0_:=Am (Kd.Q_drew Bj.out)
      have n1_:=Am (rD Bk.out)
      have n2_:=Am (rD Bl.out)
      have n3_:=Am (Kd.Q_drew Bg.out)
      have n4_:=Am (rD Bh.out)
      have n5_:=Am (rD Bf.out)
      have n6_:=Am (Kd.Q_drew Bm.out)
      have n7_:=Am (rD Bn.out)
      have n8_:=Am (rD Bo.out)
      have n9_:=Am (bD Bc.out)
      have n10_:=Am (bD Bb.out)
      have n11_:=Am (bD Bi.out)
      have n12_:=Am (o1 HB.out)
      clear Bj
      clear Bk
      clear Bl
      clear Bg
      clear Bh
      clear Bf
      clear Bm
      clear Bn
      clear Bo
      clear Bc
      clear Bb
      clear Bi
      clear HB
      have Bj:=n0_
      have Bk:=n1_
      have Bl:=n2_
      have Bg:=n3_
      have Bh:=n4_
      have Bf:=n5_
      have Bm:=n6_
      have Bn:=n7_
      have Bo:=n8_
      have Bc:=n9_
      have Bb:=n10_
      have Bi:=n11_
      have HB:=n12_
      clear n0_ n1_ n2_ n3_ n4_ n5_ n6_ n7_ n8_ n9_ n10_ n11_ n12_
      have p299:0≤(x7_2:Int):=oE (by first|(with_reducible assumption)|assumption)
      have q299:x7_2<(t283.length:Int):=oE (by first|(with_reducible assumption)|assumption)
      obtain ⟨ad299,e299,hx299_0⟩:=Kd.at_int (rR Bf.out).2.2 x7_2 p299 q299
      cases e299
      replace p299:=eq_true p299
      replace q299:=eq_true q299
      have p300:0≤(x7_2:Int):=oE (by first|(with_reducible assumption)|assumption)
      have q300:x7_2<(t283.length:Int):=oE (by first|(with_reducible assumption)|assumption)
      obtain ⟨ad300,e300,hx300_0⟩:=Kd.at_int (rR Bf.out).2.2 x7_2 p300 q300
      obtain rfl:ad299=ad300:=(by injection e300)
      replace p300:=eq_true p300
      replace q300:=eq_true q300
      have p301:0≤(x7_2:Int):=oE (by first|(with_reducible assumption)|assumption)
      have q301:x7_2<(t273.length:Int):=oE (by first|(with_reducible assumption)|assumption)
      obtain ⟨ad301,e301,hx301_0⟩:=Kd.at_int (rR Bl.out).2.2 x7_2 p301 q301
      cases e301
      replace p301:=eq_true p301
      replace q301:=eq_true q301
      refine start_ (n:=21) (S:=fun w'=>w'.cell? ⟨Ba,0,none⟩=some (.slice Ao16 t277.length co16)∧w'.cell? ⟨Ba,1,none⟩=some (.slice Ao19 t280.length co19)∧w'.cell? ⟨Ba,2,none⟩=some (.slice (some ad299) t283.length co20)∧w'.cell? ⟨Bd,0,none⟩=some (.slice Ao10 t267.length co10)∧w'.cell? ⟨Bd,1,none⟩=some (.slice Ao12 t270.length co12)∧w'.cell? ⟨Bd,2,none⟩=some (.slice (some ad301) t273.length co13)∧w'.cell? (ad299.add (x7_2).toNat)=some (.int .i64 (rd t283 x7_2))∧w'.cell? (ad299.add (x7_2).toNat)=some (.int .i64 (rd t283 x7_2))∧w'.cell? (ad301.add (x7_2).toNat)=some (.int .i64 (rd t273 x7_2))) (ds:=[]) z8q0 (by kernel_rfl) rfl rfl ⟨(bC Bb.out 0).trans rfl,(bC Bb.out 1).trans rfl,(bC Bb.out 2).trans rfl,(bC Bc.out 0).trans rfl,(bC Bc.out 1).trans rfl,(bC Bc.out 2).trans rfl,hx299_0,hx300_0,hx301_0⟩ (fun hHeld=>?_);refine with_st laws_FnSigsRun.tab12 laws_FnSigsRun.bits12 (fun _ _ _ _ _ h=>h) (fun HT_=>?_)
      generalize wr.drew=w45 at Bj Bk Bl Bg Bh Bf Bm Bn Bo Bc Bb Bi HB hx299_0 hx300_0 hx301_0 hHeld ⊢
      refine pS 0 32 z8q1 HT_ rfl rfl (by kernel_rfl) (by rfl) (by intro w';go_simp;with_reducible rfl) (by simp only [Act.put,lA,lZ,lS,iw,jw];rfl) ?_
      refine pS 2 34 z8q2 HT_ rfl rfl (by kernel_rfl) (by rfl) (by intro w';go_simp;with_reducible rfl) (by simp only [Act.put,lA,lZ,lS,iw,jw];rfl) ?_
      refine tS 1 33 z8q3 HT_ hHeld rfl rfl (by kernel_rfl) (by rfl) (by rintro w' ⟨s0,s1,s2,s3,s4,s5,s6,s7,s8⟩;go_simp;with_reducible rfl) (by simp only [Act.put,lA,lZ,lS,iw,jw];rfl) ?_
      refine pS 3 35 z8q4 HT_ rfl rfl (by kernel_rfl) (by rfl) (by intro w';go_simp;with_reducible rfl) (by simp only [Act.put,lA,lZ,lS,iw,jw];rfl) ?_
      refine tS 4 36 z8q5 HT_ hHeld rfl rfl (by kernel_rfl) (by rfl) (by rintro w' ⟨s0,s1,s2,s3,s4,s5,s6,s7,s8⟩;go_simp;with_reducible rfl) (by simp only [Act.put,lA,lZ,lS,iw,jw];rfl) ?_
      refine pS 5 37 z8q6 HT_ rfl rfl (by kernel_rfl) (by rfl) (by intro w';go_simp;with_reducible rfl) (by simp only [Act.put,lA,lZ,lS,iw,jw];rfl) ?_
      refine pS 6 38 z8q7 HT_ rfl rfl (by kernel_rfl) (by rfl) (by intro w';go_simp;with_reducible rfl) (by simp only [Act.put,lA,lZ,lS,iw,jw];rfl) ?_
      refine pS 7 39 z8q8 HT_ rfl rfl (by kernel_rfl) (by rfl) (by intro w';go_simp;with_reducible rfl) (by simp only [Act.put,lA,lZ,lS,iw,jw];rfl) ?_
      refine pS 9 41 z8q9 HT_ rfl rfl (by kernel_rfl) (by rfl) (by intro w';go_simp;with_reducible rfl) (by simp only [Act.put,lA,lZ,lS,iw,jw];rfl) ?_
      refine pS 13 45 z8q10 HT_ rfl rfl (by kernel_rfl) (by rfl) (by intro w';go_simp;with_reducible rfl) (by simp only [Act.put,lA,lZ,lS,iw,jw];rfl) ?_
      refine pS 15 47 z8q11 HT_ rfl rfl (by kernel_rfl) (by rfl) (by intro w';go_simp;with_reducible rfl) (by simp only [Act.put,lA,lZ,lS,iw,jw];rfl) ?_
      refine tS 8 40 z8q12 HT_ hHeld rfl rfl (by kernel_rfl) (by rfl) (by rintro w' ⟨s0,s1,s2,s3,s4,s5,s6,s7,s8⟩;go_simp;with_reducible rfl) (by simp only [Act.put,lA,lZ,lS,iw,jw];rfl) ?_
      refine pS 10 42 z8q13 HT_ rfl rfl (by kernel_rfl) (by rfl) (by intro w';go_simp;with_reducible rfl) (by simp only [Act.put,lA,lZ,lS,iw,jw];rfl) ?_
      refine tS 11 43 z8q14 HT_ hHeld rfl rfl (by kernel_rfl) (by rfl) (by rintro w' ⟨s0,s1,s2,s3,s4,s5,s6,s7,s8⟩;go_simp;with_reducible rfl) (by simp only [Act.put,lA,lZ,lS,iw,jw];rfl) ?_
      refine pS 12 44 z8q15 HT_ rfl rfl (by kernel_rfl) (by rfl) (by intro w';go_simp;with_reducible rfl) (by simp only [Act.put,lA,lZ,lS,iw,jw];rfl) ?_
      refine tS 14 46 z8q16 HT_ hHeld rfl rfl (by kernel_rfl) (by rfl) (by rintro w' ⟨s0,s1,s2,s3,s4,s5,s6,s7,s8⟩;go_simp;with_reducible rfl) (by simp only [Act.put,lA,lZ,lS,iw,jw];rfl) ?_
      refine pS 16 48 z8q17 HT_ rfl rfl (by kernel_rfl) (by rfl) (by intro w';go_simp;with_reducible rfl) (by simp only [Act.put,lA,lZ,lS,iw,jw];rfl) ?_
      refine tS 17 49 z8q18 HT_ hHeld rfl rfl (by kernel_rfl) (by rfl) (by rintro w' ⟨s0,s1,s2,s3,s4,s5,s6,s7,s8⟩;go_simp;with_reducible rfl) (by simp only [Act.put,lA,lZ,lS,iw,jw];rfl) ?_
      refine pS 18 50 z8q19 HT_ rfl rfl (by kernel_rfl) (by rfl) (by intro w';go_simp;with_reducible rfl) (by simp only [Act.put,lA,lZ,lS,iw,jw];rfl) ?_
      refine pS 19 51 z8q20 HT_ rfl rfl (by kernel_rfl) (by rfl) (by intro w';go_simp;with_reducible rfl) (by simp only [Act.put,lA,lZ,lS,iw,jw];rfl) ?_
      refine pS 20 52 z8q21 HT_ rfl rfl (by kernel_rfl) (by rfl) (by intro w';go_simp;with_reducible rfl) (by simp only [Act.put,lA,lZ,lS,iw,jw];rfl) ?_
      refine done_ (done_of HT_.out (by kernel_rfl)) ?_
      try go_wp2
      go_roundg k2
      case measure=>have:=Dk.out;have:=HK2.out;omega
      case rel=>exact ⟨(wrap64 (x7_2 + 1)),(by first|rfl|(simp;done)|(simp [*];done)),H',⟨by have:=Dk.out;have:=HK2.out;omega⟩,⟨by (with_reducible repeat (first|apply Kd.Q_alloc|apply Kd.Q_drewN|apply Kd.Q_drew));exact Bj.out⟩,⟨by (with_reducible repeat (first|apply rA|apply rN|apply rD));exact Bk.out⟩,⟨by (with_reducible repeat (first|apply rA|apply rN|apply rD));exact Bl.out⟩,⟨by (with_reducible repeat (first|apply Kd.Q_alloc|apply Kd.Q_drewN|apply Kd.Q_drew));exact Bg.out⟩,⟨by (with_reducible repeat (first|apply rA|apply rN|apply rD));exact Bh.out⟩,⟨by (with_reducible repeat (first|apply rA|apply rN|apply rD));exact Bf.out⟩,⟨by (with_reducible repeat (first|apply Kd.Q_alloc|apply Kd.Q_drewN|apply Kd.Q_drew));exact Bm.out⟩,⟨by (with_reducible repeat (first|apply rA|apply rN|apply rD));exact Bn.out⟩,⟨by (with_reducible repeat (first|apply rA|apply rN|apply rD));exact Bo.out⟩,⟨by (with_reducible repeat (first|refine bN ?_ _|refine bD ?_|refine bA ?_ _));exact Bc.out⟩,⟨by (with_reducible repeat (first|refine bN ?_ _|refine bD ?_|refine bA ?_ _));exact Bb.out⟩,⟨by (with_reducible repeat (first|refine bN ?_ _|refine bD ?_|refine bA ?_ _));exact Bi.out⟩,⟨by repeat (first|(with_reducible first|exact HB.out|apply oA|apply pN|apply o1|refine bS ?_ Bs.out|refine bS ?_ Bw.out|refine bS ?_ BA.out)|exact HB.out)⟩⟩
     rw [if_neg c39] at H
     have c39b0:decide (x7_2<8)=false:=dF c39
     clear c39
     replace H:=oC H
     obtain ⟨t302,A460,H⟩:=H
     replace H:(if t302=true then ((impl_SigsRun.f k2 t277 t280 t283).bind fun bt303=>((laws_qdSigs.f k2 bt303.1 bt303.2.1 bt303.2.2 t277 t280 t283).bind fun t312=>(some t312))) else (some false))=some r:=H
     have A46:=Am A460
     clear A460
     by_cases c47:t302=true
     rotate_left
     ·replace c47:=Bool.eq_false_iff.mpr c47
      subst c47
      have H1:(some false)=some r:=by rw [if_neg (show ¬ (false=true) by decide)] at H;exact H
      clear H
      have H:=H1
      clear H1
      exact absurd ((oJ H).trans hT_.out) (by decide)

     subst c47
     have H1:((impl_SigsRun.f k2 t277 t280 t283).bind fun bt303=>((laws_qdSigs.f k2 bt303.1 bt303.2.1 bt303.2.2 t277 t280 t283).bind fun t312=>(some t312)))=some r:=by rw [if_pos rfl] at H;exact H
     clear H
     have H:=H1
     clear H1
     replace H:=oC H
     obtain ⟨⟨t303,t306,t309⟩,A480,H⟩:=H
     replace H:((laws_qdSigs.f k2 t303 t306 t309 t277 t280 t283).bind fun t312=>(some t312))=some r:=H
     have A48:=Am A480
     clear A480
     replace H:=oC H
     obtain ⟨t312,A490,H⟩:=H
     replace H:(some t312)=some r:=H
     have A49:=Am A490
     clear A490
     obtain rfl:=oJ H
     try go_wp2
     have n0_:=Am (Kd.Q_drew Bj.out)
     have n1_:=Am (rD Bk.out)
     have n2_:=Am (rD Bl.out)
     have n3_:=Am (Kd.Q_drew Bg.out)
     have n4_:=Am (rD Bh.out)
     have n5_:=Am (rD Bf.out)
     have n6_:=Am (Kd.Q_drew Bm.out)
     have n7_:=Am (rD Bn.out)
     have n8_:=Am (rD Bo.out)
     have n9_:=Am (bD Bc.out)
     have n10_:=Am (bD Bb.out)
     have n11_:=Am (bD Bi.out)
     have n12_:=Am (o1 HB.out)
     clear Bj
     clear Bk
     clear Bl
     clear Bg
     clear Bh
     clear Bf
     clear Bm
     clear Bn
     clear Bo
     clear Bc
     clear Bb
     clear Bi
     clear HB
     have Bj:=n0_
     have Bk:=n1_
     have Bl:=n2_
     have Bg:=n3_
     have Bh:=n4_
     have Bf:=n5_
     have Bm:=n6_
     have Bn:=n7_
     have Bo:=n8_
     have Bc:=n9_
     have Bb:=n10_
     have Bi:=n11_
     have HB:=n12_
     clear n0_ n1_ n2_ n3_ n4_ n5_ n6_ n7_ n8_ n9_ n10_ n11_ n12_
     refine start_ (n:=9) (S:=fun w'=>w'.cell? ⟨Ba,0,none⟩=some (.slice Ao16 t277.length co16)∧w'.cell? ⟨Ba,1,none⟩=some (.slice Ao19 t280.length co19)∧w'.cell? ⟨Ba,2,none⟩=some (.slice Ao20 t283.length co20)) (ds:=[]) z8q22 (by kernel_rfl) rfl rfl ⟨(bC Bb.out 0).trans rfl,(bC Bb.out 1).trans rfl,(bC Bb.out 2).trans rfl⟩ (fun hHeld=>?_);refine with_st laws_FnSigsRun.tab14 laws_FnSigsRun.bits14 (fun _ _ _ _ _ h=>h) (fun HT_=>?_)
     generalize wr.drew=w50 at Bj Bk Bl Bg Bh Bf Bm Bn Bo Bc Bb Bi HB hHeld ⊢
     refine tS 0 53 z8q23 HT_ hHeld rfl rfl (by kernel_rfl) (by rfl) (by rintro w' ⟨s0,s1,s2⟩;go_simp;with_reducible rfl) (by simp only [Act.put,lA,lZ,lS,iw,jw];rfl) ?_
     refine oS 1 54 z8q24 HT_ rfl rfl (by kernel_rfl) (by decide) (fun K hK=>?_)
     refine goes_ Try.func16 (by kernel_rfl) rfl #[.agg #[.slice Ao16 t277.length co16,.slice Ao19 t280.length co19,.slice Ao20 t283.length co20]] (by rfl) rfl rfl (by (try simp only [lM,lC,lN]);first|done|rfl|(simp only [lD,lT];rfl)) ?_
     with_reducible refine (impl_SigsOk.calls k2 _ _ t277 _ _ t280 _ _ t283 true _ ?side1 ?side2 ?side3 ?side4 ?side5 ?side6 A46.out).mono ?_
     (case side1=>exact cL (qR Bg.out).2.2)
     (case side2=>exact (qR Bg.out).2.1)
     (case side3=>exact cL (rR Bh.out).2.2)
     (case side4=>exact (rR Bh.out).2.1)
     (case side5=>exact cL (rR Bf.out).2.2)
     (case side6=>exact (rR Bf.out).2.1)
     rintro e w51 ⟨rfl,hb⟩
     refine ⟨_,rfl,?_⟩
     have n0_:=Am (Kd.Q_below (qL Bj.out) hb)
     have n1_:=Am (rB (rL Bk.out) hb)
     have n2_:=Am (rB (rL Bl.out) hb)
     have n3_:=Am (Kd.Q_below (qL Bg.out) hb)
     have n4_:=Am (rB (rL Bh.out) hb)
     have n5_:=Am (rB (rL Bf.out) hb)
     have n6_:=Am (Kd.Q_below (qL Bm.out) hb)
     have n7_:=Am (rB (rL Bn.out) hb)
     have n8_:=Am (rB (rL Bo.out) hb)
     have n9_:=Am (bX Bc.out hb)
     have n10_:=Am (bX Bb.out hb)
     have n11_:=Am (bX Bi.out hb)
     have n12_:=Am (bP (by repeat (first|(with_reducible first|exact HB.out|apply oA|apply pN|apply o1|refine bS ?_ Bs.out|refine bS ?_ Bw.out|refine bS ?_ BA.out)|exact HB.out)) hb)
     clear Bj
     clear Bk
     clear Bl
     clear Bg
     clear Bh
     clear Bf
     clear Bm
     clear Bn
     clear Bo
     clear Bc
     clear Bb
     clear Bi
     clear HB
     have Bj:=n0_
     have Bk:=n1_
     have Bl:=n2_
     have Bg:=n3_
     have Bh:=n4_
     have Bf:=n5_
     have Bm:=n6_
     have Bn:=n7_
     have Bo:=n8_
     have Bc:=n9_
     have Bb:=n10_
     have Bi:=n11_
     have HB:=n12_
     clear n0_ n1_ n2_ n3_ n4_ n5_ n6_ n7_ n8_ n9_ n10_ n11_ n12_
     (try clear hb)
     (try clear hb2)
     (try clear hk)
     (try clear hi)
     refine hK.out _ _ ⟨(bC Bb.out 0).trans rfl,(bC Bb.out 1).trans rfl,(bC Bb.out 2).trans rfl⟩ (fun hHeld=>?_)
     clear hK K
     refine norm_ (by show Act.put _ (some 54) _=_;simp only [Act.put,lA,lZ,lS,iw,jw];rfl) ?_
     refine pS 2 55 z8q25 HT_ rfl rfl (by kernel_rfl) (by rfl) (by intro w';go_simp;with_reducible rfl) (by simp only [Act.put,lA,lZ,lS,iw,jw];rfl) ?_
     refine tS 3 56 z8q26 HT_ hHeld rfl rfl (by kernel_rfl) (by rfl) (by rintro w' ⟨s0,s1,s2⟩;go_simp;with_reducible rfl) (by simp only [Act.put,lA,lZ,lS,iw,jw];rfl) ?_
     refine tS 5 58 z8q27 HT_ hHeld rfl rfl (by kernel_rfl) (by rfl) (by rintro w' ⟨s0,s1,s2⟩;go_simp;with_reducible rfl) (by simp only [Act.put,lA,lZ,lS,iw,jw];rfl) ?_
     refine oS 4 57 z8q28 HT_ rfl rfl (by kernel_rfl) (by decide) (fun K hK=>?_)
     refine goes_ Try.func31 (by kernel_rfl) rfl #[.agg #[.slice Ao16 t277.length co16,.slice Ao19 t280.length co19,.slice Ao20 t283.length co20]] (by rfl) rfl rfl (by (try simp only [lM,lC,lN]);first|done|rfl|(simp only [lD,lT];rfl)) ?_
     with_reducible refine (impl_SigsRun.calls k2 _ _ t277 _ _ t280 _ _ t283 t303 t306 t309 _ ?side1 ?side2 ?side3 ?side4 ?side5 ?side6 A48.out).mono ?_
     (case side1=>exact cL (qR Bg.out).2.2)
     (case side2=>exact (qR Bg.out).2.1)
     (case side3=>exact cL (rR Bh.out).2.2)
     (case side4=>exact (rR Bh.out).2.1)
     (case side5=>exact cL (rR Bf.out).2.2)
     (case side6=>exact (rR Bf.out).2.1)
     rintro e w52 ⟨v304,v307,v310,rfl,ho0,ho1,ho2,hb⟩
     refine ⟨_,rfl,?_⟩
     have n0_:=Am (qM (qJ (qJ (qK (qL Bj.out) hb) (rZ ho0)) (rZ ho1)) (fun _ h_=>h_.1))
     have n1_:=Am (rM (rJ (rJ (rK (rL Bk.out) hb) (rZ ho0)) (rZ ho1)) (fun _ h_=>h_.1))
     have n2_:=Am (rX (rL Bl.out) (rZ ho2) hb)
     have n3_:=Am (qM (qJ (qJ (qK (qL Bg.out) hb) (rZ ho0)) (rZ ho1)) (fun _ h_=>h_.1))
     have n4_:=Am (rM (rJ (rJ (rK (rL Bh.out) hb) (rZ ho0)) (rZ ho1)) (fun _ h_=>h_.1))
     have n5_:=Am (rX (rL Bf.out) (rZ ho2) hb)
     have n6_:=Am (qM (qJ (qJ (qK (qL Bm.out) hb) (rZ ho0)) (rZ ho1)) (fun _ h_=>h_.1))
     have n7_:=Am (rM (rJ (rJ (rK (rL Bn.out) hb) (rZ ho0)) (rZ ho1)) (fun _ h_=>h_.1))
     have n8_:=Am (rX (rL Bo.out) (rZ ho2) hb)
     have n9_:=Am (rW (rQ (rQ (rQ (rQ (rQ (rQ ho0 (qI (qL Bj.out))) (rI (rL Bk.out))) (qI (qL Bg.out))) (rI (rL Bh.out))) (qI (qL Bm.out))) (rI (rL Bn.out))) (bZ (by repeat (first|(with_reducible first|exact HB.out|apply oA|apply pN|apply o1|refine bS ?_ Bs.out|refine bS ?_ Bw.out|refine bS ?_ BA.out)|exact HB.out))))
     have n10_:=Am (rW (rQ (rQ (rQ (rQ (rQ (rQ ho1 (qI (qL Bj.out))) (rI (rL Bk.out))) (qI (qL Bg.out))) (rI (rL Bh.out))) (qI (qL Bm.out))) (rI (rL Bn.out))) (bZ (by repeat (first|(with_reducible first|exact HB.out|apply oA|apply pN|apply o1|refine bS ?_ Bs.out|refine bS ?_ Bw.out|refine bS ?_ BA.out)|exact HB.out))))
     have n11_:=Am (rW (rQ (rQ (rQ ho2 (rI (rL Bl.out))) (rI (rL Bf.out))) (rI (rL Bo.out))) (bZ (by repeat (first|(with_reducible first|exact HB.out|apply oA|apply pN|apply o1|refine bS ?_ Bs.out|refine bS ?_ Bw.out|refine bS ?_ BA.out)|exact HB.out))))
     have n12_:=Am (bX Bc.out hb)
     have n13_:=Am (bX Bb.out hb)
     have n14_:=Am (bX Bi.out hb)
     have n15_:=Am (bP (by repeat (first|(with_reducible first|exact HB.out|apply oA|apply pN|apply o1|refine bS ?_ Bs.out|refine bS ?_ Bw.out|refine bS ?_ BA.out)|exact HB.out)) hb)
     clear Bj
     clear Bk
     clear Bl
     clear Bg
     clear Bh
     clear Bf
     clear Bm
     clear Bn
     clear Bo
     clear Bc
     clear Bb
     clear Bi
     clear HB
     have Bj:=n0_
     have Bk:=n1_
     have Bl:=n2_
     have Bg:=n3_
     have Bh:=n4_
     have Bf:=n5_
     have Bm:=n6_
     have Bn:=n7_
     have Bo:=n8_
     have BD:=n9_
     have BE:=n10_
     have BF:=n11_
     have Bc:=n12_
     have Bb:=n13_
     have Bi:=n14_
     have HB:=n15_
     clear n0_ n1_ n2_ n3_ n4_ n5_ n6_ n7_ n8_ n9_ n10_ n11_ n12_ n13_ n14_ n15_
     (try clear hb)
     (try clear hb2)
     (try clear hk)
     (try clear hi)
     (try clear ho0)
     (try clear ho1)
     (try clear ho2)
     obtain ⟨Ao53,co53,eo53⟩:=rC BD.out
     (first|subst eo53|(injection eo53 with f1_ f2_ f3_;have f4_:=f1_.symm;have f5_:=f3_.symm;clear f1_ f2_ f3_;subst f4_;subst f5_))
     obtain ⟨Ao54,co54,eo54⟩:=rC BE.out
     (first|subst eo54|(injection eo54 with f1_ f2_ f3_;have f4_:=f1_.symm;have f5_:=f3_.symm;clear f1_ f2_ f3_;subst f4_;subst f5_))
     obtain ⟨Ao55,co55,eo55⟩:=rC BF.out
     (first|subst eo55|(injection eo55 with f1_ f2_ f3_;have f4_:=f1_.symm;have f5_:=f3_.symm;clear f1_ f2_ f3_;subst f4_;subst f5_))
     refine hK.out _ _ ⟨(bC Bb.out 0).trans rfl,(bC Bb.out 1).trans rfl,(bC Bb.out 2).trans rfl⟩ (fun hHeld=>?_)
     clear hK K
     refine norm_ (by show Act.put _ (some 57) _=_;simp only [Act.put,lA,lZ,lS,iw,jw];rfl) ?_
     refine oS 6 59 z8q29 HT_ rfl rfl (by kernel_rfl) (by decide) (fun K hK=>?_)
     refine goes_ Try.func14 (by kernel_rfl) rfl #[.agg #[.slice Ao53 t303.length co53,.slice Ao54 t306.length co54,.slice Ao55 t309.length co55],.agg #[.slice Ao16 t277.length co16,.slice Ao19 t280.length co19,.slice Ao20 t283.length co20]] (by rfl) rfl rfl (by (try simp only [lM,lC,lN]);first|done|rfl|(simp only [lD,lT];rfl)) ?_
     with_reducible refine (laws_qdSigs.calls k2 _ _ t303 _ _ t306 _ _ t309 _ _ t277 _ _ t280 _ _ t283 t312 _ ?side1 ?side2 ?side3 ?side4 ?side5 ?side6 ?side7 ?side8 ?side9 ?side10 ?side11 ?side12 A49.out).mono ?_
     (case side1=>exact cL (rR BD.out).2.2)
     (case side2=>exact (rR BD.out).2.1)
     (case side3=>exact cL (rR BE.out).2.2)
     (case side4=>exact (rR BE.out).2.1)
     (case side5=>exact cL (rR BF.out).2.2)
     (case side6=>exact (rR BF.out).2.1)
     (case side7=>exact cL (qR Bg.out).2.2)
     (case side8=>exact (qR Bg.out).2.1)
     (case side9=>exact cL (rR Bh.out).2.2)
     (case side10=>exact (rR Bh.out).2.1)
     (case side11=>exact cL (rR Bf.out).2.2)
     (case side12=>exact (rR Bf.out).2.1)
     rintro e w56 ⟨rfl,hb⟩
     refine ⟨_,rfl,?_⟩
     have n0_:=Am (Kd.Q_below (qL Bj.out) hb)
     have n1_:=Am (rB (rL Bk.out) hb)
     have n2_:=Am (rB (rL Bl.out) hb)
     have n3_:=Am (Kd.Q_below (qL Bg.out) hb)
     have n4_:=Am (rB (rL Bh.out) hb)
     have n5_:=Am (rB (rL Bf.out) hb)
     have n6_:=Am (Kd.Q_below (qL Bm.out) hb)
     have n7_:=Am (rB (rL Bn.out) hb)
     have n8_:=Am (rB (rL Bo.out) hb)
     have n9_:=Am (rB (rL BD.out) hb)
     have n10_:=Am (rB (rL BE.out) hb)
     have n11_:=Am (rB (rL BF.out) hb)
     have n12_:=Am (bX Bc.out hb)
     have n13_:=Am (bX Bb.out hb)
     have n14_:=Am (bX Bi.out hb)
     have n15_:=Am (bP (by repeat (first|(with_reducible first|exact HB.out|apply oA|apply pN|apply o1|refine bS ?_ Bs.out|refine bS ?_ Bw.out|refine bS ?_ BA.out)|exact HB.out)) hb)
     clear Bj
     clear Bk
     clear Bl
     clear Bg
     clear Bh
     clear Bf
     clear Bm
     clear Bn
     clear Bo
     clear BD
     clear BE
     clear BF
     clear Bc
     clear Bb
     clear Bi
     clear HB
     have Bj:=n0_
     have Bk:=n1_
     have Bl:=n2_
     have Bg:=n3_
     have Bh:=n4_
     have Bf:=n5_
     have Bm:=n6_
     have Bn:=n7_
     have Bo:=n8_
     have BD:=n9_
     have BE:=n10_
     have BF:=n11_
     have Bc:=n12_
     have Bb:=n13_
     have Bi:=n14_
     have HB:=n15_
     clear n0_ n1_ n2_ n3_ n4_ n5_ n6_ n7_ n8_ n9_ n10_ n11_ n12_ n13_ n14_ n15_
     (try clear hb)
     (try clear hb2)
     (try clear hk)
     (try clear hi)
     refine hK.out _ _ ⟨(bC Bb.out 0).trans rfl,(bC Bb.out 1).trans rfl,(bC Bb.out 2).trans rfl⟩ (fun hHeld=>?_)
     clear hK K
     refine norm_ (by show Act.put _ (some 59) _=_;simp only [Act.put,lA,lZ,lS,iw,jw];rfl) ?_
     refine pS 7 60 z8q30 HT_ rfl rfl (by kernel_rfl) (by rfl) (by intro w';go_simp;with_reducible rfl) (by simp only [Act.put,lA,lZ,lS,iw,jw];rfl) ?_
     refine pS 8 2 z8q31 HT_ rfl rfl (by kernel_rfl) (by rfl) (by intro w';go_simp;with_reducible rfl) (by simp only [Act.put,lA,lZ,lS,iw,jw];rfl) ?_
     refine done_ (done_of HT_.out (by kernel_rfl)) ?_
     try go_wp2
     go_ret
     exact ⟨by first|rfl|(simp [errW_none,errW_some] <;> rfl)|(simp [*,errW_none,errW_some] <;> rfl),by repeat (first|(with_reducible first|exact HB.out|apply oA|apply pN|apply o1|refine bS ?_ Bs.out|refine bS ?_ Bw.out|refine bS ?_ BA.out)|exact HB.out)⟩
/-- THE ONE PURE STATEMENT of laws_FnSigsRun: yours. -/
def laws_FnSigsRun.Pure:Prop:=∀ (l0:List Int),l0.length≤maxLen → l0.length * 1≤140737488351232 → (∀ x ∈ l0,(Lit.int .u8 x).wf=true) → ∃ k,laws_FnSigsRun.f k l0=some true
theorem laws_FnSigsRun.walk (P:laws_FnSigsRun.Pure) (a0:Option Addr) (len0 cap0:Nat) (z0:List Int) (w:World) (w0:(a0=none∧len0=0∧cap0=0∧z0=[])∨∃ x,a0=some x∧len0≤cap0∧cap0≤maxLen∧z0.length=cap0∧(∀ i,i<z0.length → w.cell? (x.add i)=some (.int .u8 (z0.getD i 0)))∧∀ n ∈ z0,(Lit.int .u8 n).wf=true) (y0:len0 * 1≤140737488351232) :
  Calls Try.prog 8 #[.slice a0 len0 cap0] w fun e w'=>e=.returned (.bool true)∧Below w.heap.size w w':=by
 obtain ⟨l0,rfl,hr0,hm0,hw0,hc0⟩:=ReadsInt.ofRowC w0
 obtain ⟨k,h⟩:=P l0 hm0 y0 hw0
 refine (laws_FnSigsRun.calls k _ _ l0 true w (Kd.C_of_reads (d:=(0:Int)) (h1:=fun _=>rfl) hr0) hc0 h ⟨rfl⟩).mono ?_
 rintro e w' ⟨rfl,hd⟩
 exact ⟨rfl,hd⟩

end Go.Proofs.Ytiifanjjohophaa.PFnSigsRun
