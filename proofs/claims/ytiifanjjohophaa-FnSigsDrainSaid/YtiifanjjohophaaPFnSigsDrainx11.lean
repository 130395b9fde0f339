/- Proved here, without a condition beyond those that each theorem states: what the Go functions named below do is what the plain functions of the same names say. Written by xprint.py, a program of this session. -/
import Derived.Test.YtiifanjjohophaaPFnSigsDrainx0
import Derived.Test.YtiifanjjohophaaPFnSigsDrainx1
import Derived.Test.YtiifanjjohophaaPFnSigsDrainx4
import Derived.Test.YtiifanjjohophaaPFnSigsDrainx9
import Derived.Test.YtiifanjjohophaaPFnSigsDrainx10
namespace Go.Proofs.Ytiifanjjohophaa.PFnSigsDrain
open Go.RowKit Go.Proofs.YtiifanjjohophaaW.PrintWords Go.Proofs.YtiifanjjohophaaW.PrintLast Go.Proofs.YtiifanjjohophaaW.PrintMore
attribute [local go_sem] max2_int min2_int max_two min_two max_three min_three max_four min_four   -- for this text's walks alone
set_option linter.unusedVariables false
set_option linter.unusedSimpArgs false

attribute [local go_sem ↓] isSome_setCell_
/-! ### laws_FnSigsDrain: function 4 -/
mutual
def laws_FnSigsDrain.j0 : Nat → Bool → Bool → List Bool → List Bool → List Int → Option (Bool)
|0, _, _, _, _, _ => none
|k + 1, x4, x29, x242000, x242001, x242002 => if x29 = true then ((spec_SigsOk.f k x242000 x242001 x242002).bind fun t244 => (some (x4 == t244))) else (laws_FnSigsDrain.l0 k 1 x242000 x242001 x242002 x242000 x242001 x242002)
def laws_FnSigsDrain.l0 : Nat → Int → List Bool → List Bool → List Int → List Bool → List Bool → List Int → Option (Bool)
|0, _, _, _, _, _, _, _ => none
|k + 1, x6, x242000, x242001, x242002, x246000, x246001, x246002 => if x6 ≤ 8 then (if 0 ≤ (wrap64 (x6 - 1)) then (if (wrap64 (x6 - 1)) < (x242000.length : Int) then (if rdOf false x242000 (wrap64 (x6 - 1)) = true then (if (wrap64 (x6 - 1)) < (x242001.length : Int) then (laws_FnSigsDrain.j2 k x6 (!(rdOf false x242001 (wrap64 (x6 - 1)))) x242000 x242001 x242002 x246000 x246001 x246002) else (none)) else (laws_FnSigsDrain.j2 k x6 false x242000 x242001 x242002 x246000 x246001 x246002)) else (none)) else (none)) else ((impl_SigsNext.f k x246000 x246001 x246002).bind fun bt246 => (some (!bt246.2.2.2.2.2)))
def laws_FnSigsDrain.j2 : Nat → Int → Bool → List Bool → List Bool → List Int → List Bool → List Bool → List Int → Option (Bool)
|0, _, _, _, _, _, _, _, _ => none
|k + 1, x6, x53, x242000, x242001, x242002, x246000, x246001, x246002 => if x53 = true then ((impl_SigsNext.f k x246000 x246001 x246002).bind fun bt261 => (if bt261.2.2.2.2.2 = true then (if bt261.2.2.2.1 = x6 then (laws_FnSigsDrain.l0 k (wrap64 (x6 + 1)) x242000 x242001 x242002 bt261.1 bt261.2.1 bt261.2.2.1) else (some false)) else (some false))) else (laws_FnSigsDrain.l0 k (wrap64 (x6 + 1)) x242000 x242001 x242002 x246000 x246001 x246002)
end
def laws_FnSigsDrain.f (k : Nat) (l0 : List Int) : Option (Bool) := if (l0.length : Int) > 1048576 then (some true) else ((spec_DrawSigsNext.f k l0).bind fun bt232 => ((impl_SigsOk.f k bt232.1 bt232.2.1 bt232.2.2).bind fun t242 => ((spec_SigsOk.f k bt232.1 bt232.2.1 bt232.2.2).bind fun t243 => (if (t242 != t243) = true then (laws_FnSigsDrain.j0 k t242 true bt232.1 bt232.2.1 bt232.2.2) else (laws_FnSigsDrain.j0 k t242 (!t242) bt232.1 bt232.2.1 bt232.2.2)))))
theorem laws_FnSigsDrain.mono_l : ∀ k, (∀ y0 y1 y2 y3 y4, LeO (laws_FnSigsDrain.j0 k y0 y1 y2 y3 y4) (laws_FnSigsDrain.j0 (k + 1) y0 y1 y2 y3 y4)) ∧ (∀ y0 y1 y2 y3 y4 y5 y6, LeO (laws_FnSigsDrain.l0 k y0 y1 y2 y3 y4 y5 y6) (laws_FnSigsDrain.l0 (k + 1) y0 y1 y2 y3 y4 y5 y6)) ∧ (∀ y0 y1 y2 y3 y4 y5 y6 y7, LeO (laws_FnSigsDrain.j2 k y0 y1 y2 y3 y4 y5 y6 y7) (laws_FnSigsDrain.j2 (k + 1) y0 y1 y2 y3 y4 y5 y6 y7))
|0 => ⟨fun _ _ _ _ _ r h => by simp [laws_FnSigsDrain.j0] at h, fun _ _ _ _ _ _ _ r h => by simp [laws_FnSigsDrain.l0] at h, fun _ _ _ _ _ _ _ _ r h => by simp [laws_FnSigsDrain.j2] at h⟩
|k + 1 => by
  obtain ⟨ih0, ih1, ih2⟩ := laws_FnSigsDrain.mono_l k
  refine ⟨?_, ?_, ?_⟩
  ·intro y0 y1 y2 y3 y4
   unfold laws_FnSigsDrain.j0
   repeat' first
  |(with_reducible exact ih0 _ _ _ _ _)
  |(with_reducible exact ih1 _ _ _ _ _ _ _)
  |(with_reducible exact ih2 _ _ _ _ _ _ _ _)
  |(with_reducible exact impl_SigsNext.mono _ _ _ _)
  |(with_reducible exact impl_SigsOk.mono _ _ _ _)
  |(with_reducible exact spec_DrawSigsNext.mono _ _)
  |(with_reducible exact spec_SigsOk.mono _ _ _ _)
  |(with_reducible exact LeO.refl _)
  |(with_reducible exact LeO.none _)
  |(with_reducible refine LeO.ite ?_ ?_)
  |(with_reducible refine LeO.bind ?_ (fun _ => ?_))
  |exact ih0 _ _ _ _ _
  |exact ih1 _ _ _ _ _ _ _
  |exact ih2 _ _ _ _ _ _ _ _
  |exact impl_SigsNext.mono _ _ _ _
  |exact impl_SigsOk.mono _ _ _ _
  |exact spec_DrawSigsNext.mono _ _
  |exact spec_SigsOk.mono _ _ _ _
  |exact LeO.none _
  |refine LeO.ite ?_ ?_
  |refine LeO.bind ?_ (fun _ => ?_)
  ·intro y0 y1 y2 y3 y4 y5 y6
   unfold laws_FnSigsDrain.l0
   repeat' first
  |(with_reducible exact ih0 _ _ _ _ _)
  |(with_reducible exact ih1 _ _ _ _ _ _ _)
  |(with_reducible exact ih2 _ _ _ _ _ _ _ _)
  |(with_reducible exact impl_SigsNext.mono _ _ _ _)
  |(with_reducible exact impl_SigsOk.mono _ _ _ _)
  |(with_reducible exact spec_DrawSigsNext.mono _ _)
  |(with_reducible exact spec_SigsOk.mono _ _ _ _)
  |(with_reducible exact LeO.refl _)
  |(with_reducible exact LeO.none _)
  |(with_reducible refine LeO.ite ?_ ?_)
  |(with_reducible refine LeO.bind ?_ (fun _ => ?_))
  |exact ih0 _ _ _ _ _
  |exact ih1 _ _ _ _ _ _ _
  |exact ih2 _ _ _ _ _ _ _ _
  |exact impl_SigsNext.mono _ _ _ _
  |exact impl_SigsOk.mono _ _ _ _
  |exact spec_DrawSigsNext.mono _ _
  |exact spec_SigsOk.mono _ _ _ _
  |exact LeO.none _
  |refine LeO.ite ?_ ?_
  |refine LeO.bind ?_ (fun _ => ?_)
  ·intro y0 y1 y2 y3 y4 y5 y6 y7
   unfold laws_FnSigsDrain.j2
   repeat' first
  |(with_reducible exact ih0 _ _ _ _ _)
  |(with_reducible exact ih1 _ _ _ _ _ _ _)
  |(with_reducible exact ih2 _ _ _ _ _ _ _ _)
  |(with_reducible exact impl_SigsNext.mono _ _ _ _)
  |(with_reducible exact impl_SigsOk.mono _ _ _ _)
  |(with_reducible exact spec_DrawSigsNext.mono _ _)
  |(with_reducible exact spec_SigsOk.mono _ _ _ _)
  |(with_reducible exact LeO.refl _)
  |(with_reducible exact LeO.none _)
  |(with_reducible refine LeO.ite ?_ ?_)
  |(with_reducible refine LeO.bind ?_ (fun _ => ?_))
  |exact ih0 _ _ _ _ _
  |exact ih1 _ _ _ _ _ _ _
  |exact ih2 _ _ _ _ _ _ _ _
  |exact impl_SigsNext.mono _ _ _ _
  |exact impl_SigsOk.mono _ _ _ _
  |exact spec_DrawSigsNext.mono _ _
  |exact spec_SigsOk.mono _ _ _ _
  |exact LeO.none _
  |refine LeO.ite ?_ ?_
  |refine LeO.bind ?_ (fun _ => ?_)
theorem laws_FnSigsDrain.mono : ∀ a0 k, LeO (laws_FnSigsDrain.f k a0) (laws_FnSigsDrain.f (k + 1) a0) := by
 intro a0 k
 obtain ⟨ih0, ih1, ih2⟩ := laws_FnSigsDrain.mono_l k
 unfold laws_FnSigsDrain.f
 repeat' first
  |(with_reducible exact ih0 _ _ _ _ _)
  |(with_reducible exact ih1 _ _ _ _ _ _ _)
  |(with_reducible exact ih2 _ _ _ _ _ _ _ _)
  |(with_reducible exact impl_SigsNext.mono _ _ _ _)
  |(with_reducible exact impl_SigsOk.mono _ _ _ _)
  |(with_reducible exact spec_DrawSigsNext.mono _ _)
  |(with_reducible exact spec_SigsOk.mono _ _ _ _)
  |(with_reducible exact LeO.refl _)
  |(with_reducible exact LeO.none _)
  |(with_reducible refine LeO.ite ?_ ?_)
  |(with_reducible refine LeO.bind ?_ (fun _ => ?_))
  |exact ih0 _ _ _ _ _
  |exact ih1 _ _ _ _ _ _ _
  |exact ih2 _ _ _ _ _ _ _ _
  |exact impl_SigsNext.mono _ _ _ _
  |exact impl_SigsOk.mono _ _ _ _
  |exact spec_DrawSigsNext.mono _ _
  |exact spec_SigsOk.mono _ _ _ _
  |exact LeO.none _
  |refine LeO.ite ?_ ?_
  |refine LeO.bind ?_ (fun _ => ?_)
set_option maxHeartbeats 2000000 in
set_option maxRecDepth 100000 in
theorem laws_FnSigsDrain.calls (k:Nat) (A0:Option Addr) (c0:Nat) (l0:List Int) (r:Bool) (w:World) (hr0:Kd.C (Kd.int .u8) w A0 l0.length l0) (hc0:l0.length≤c0) (h:laws_FnSigsDrain.f k l0=some r) (hT_:Aside0 (r=true)) :
  Calls Try.prog 4 #[.slice A0 l0.length c0] w fun e w'=>e=.returned (.bool r)∧Below w.heap.size w w':=by
 have hu26:=Try.underlying26
 have HR0:=Am hr0
 have HC0:=Am hc0
 clear hr0 hc0
 have HB:=Am (bJ w.heap.size w)
 have H:(if (l0.length:Int) > 1048576 then (some true) else ((spec_DrawSigsNext.f k l0).bind fun bt232=>((impl_SigsOk.f k bt232.1 bt232.2.1 bt232.2.2).bind fun t242=>((spec_SigsOk.f k bt232.1 bt232.2.1 bt232.2.2).bind fun t243=>(if (t242 != t243)=true then (laws_FnSigsDrain.j0 k t242 true bt232.1 bt232.2.1 bt232.2.2) else (laws_FnSigsDrain.j0 k t242 (!t242) bt232.1 bt232.2.1 bt232.2.2))))))=some r:=h
 clear h
 by_cases c2:(l0.length:Int) > 1048576
 ·rw [if_pos c2] at H
  have c2b0:decide (1048576<(l0.length:Int))=true:=dT c2
  have c2b1:decide (1048576<l0.length)=true:=dT (by omega)
  clear c2
  obtain rfl:=oJ H
  go_enter Try.func4,Try.ntmps4
  go_wp2
  go_ret
  exact ⟨by first|rfl|(simp [errW_none,errW_some] <;> rfl)|(simp [*,errW_none,errW_some] <;> rfl),by repeat (first|(with_reducible first|exact HB.out|apply oA|apply pN|apply o1)|exact HB.out)⟩
 rw [if_neg c2] at H
 have c2b0:decide (1048576<(l0.length:Int))=false:=dF c2
 have c2b1:decide (1048576<l0.length)=false:=dF (by omega)
 clear c2
 replace H:=oC H
 obtain ⟨⟨t232,t235,t238⟩,A30,H⟩:=H
 replace H:((impl_SigsOk.f k t232 t235 t238).bind fun t242=>((spec_SigsOk.f k t232 t235 t238).bind fun t243=>(if (t242 != t243)=true then (laws_FnSigsDrain.j0 k t242 true t232 t235 t238) else (laws_FnSigsDrain.j0 k t242 (!t242) t232 t235 t238))))=some r:=H
 have A3:=Am A30
 clear A30
 replace H:=oC H
 obtain ⟨t242,A40,H⟩:=H
 replace H:((spec_SigsOk.f k t232 t235 t238).bind fun t243=>(if (t242 != t243)=true then (laws_FnSigsDrain.j0 k t242 true t232 t235 t238) else (laws_FnSigsDrain.j0 k t242 (!t242) t232 t235 t238)))=some r:=H
 have A4:=Am A40
 clear A40
 have HC5:=Am H
 clear H
 go_enter Try.func4,Try.ntmps4
 go_upto_region 5 with (first|((with_reducible refine gC (f:=17) rfl ?_);refine goesL_ (some 19) rfl rfl Try.func17 (by kernel_rfl) rfl #[.slice A0 l0.length c0] rfl (by (try simp only [lM,lC,lN]);first|done|rfl|(simp only [lD,lT];rfl)) ?_;(with_reducible refine (spec_DrawSigsNext.calls k _ _ l0 t232 t235 t238 _ ?side1 ?side2 A3.out).mono ?_);(case side1=>exact cL HR0.out);(case side2=>exact HC0.out);rintro e w6 ⟨v233,v236,v239,rfl,ho0,ho1,ho2,hb⟩;refine ⟨_,rfl,?_⟩;have n0_:=Am (Kd.Q_lower ho0 (bZ (by repeat (first|(with_reducible first|exact HB.out|apply oA|apply pN|apply o1)|exact HB.out))));have n1_:=Am (rW ho1 (bZ (by repeat (first|(with_reducible first|exact HB.out|apply oA|apply pN|apply o1)|exact HB.out))));have n2_:=Am (rW ho2 (bZ (by repeat (first|(with_reducible first|exact HB.out|apply oA|apply pN|apply o1)|exact HB.out))));have n3_:=Am (bP (by repeat (first|(with_reducible first|exact HB.out|apply oA|apply pN|apply o1)|exact HB.out)) hb);clear HB;revert n0_ n1_ n2_ n3_;intro Bm Bn Bo HB;(try clear hb);(try clear hb2);(try clear hk);(try clear hi);(try clear ho0);(try clear ho1);(try clear ho2))|((with_reducible refine gD (N:=3) rfl ?_);refine bI ?hg (N:=3) ?hd (cs:=#[.slice none 0 0,.slice none 0 0,.slice none 0 0]) (t:=26) ?hr ?_;(case hd=>rfl);(case hg=>rfl);(case hr=>first|(go_simp;done)|(go_simp;rfl));intro Bc hg w7 hbox hb;have n0_:=Am (Kd.Q_below (qL Bm.out) hb);have n1_:=Am (rB (rL Bn.out) hb);have n2_:=Am (rB (rL Bo.out) hb);have n3_:=Am (bP (by repeat (first|(with_reducible first|exact HB.out|apply oA|apply pN|apply o1)|exact HB.out)) hb);have n4_:=Am (hbox);have n5_:=Am ((by rw [hg];exact (bZ (by repeat (first|(with_reducible first|exact HB.out|apply oA|apply pN|apply o1)|exact HB.out))):w.heap.size≤Bc));have n6_:=Am ((by rw [hg];exact (bZ (by repeat (first|(with_reducible first|exact HB.out|apply oA|apply pN|apply o1)|exact HB.out))):w.heap.size≤Bc));clear Bm Bn Bo HB;revert n0_ n1_ n2_ n3_ n4_ n5_ n6_;intro Bm Bn Bo HB Ba D3 Bk;clear hb hbox hg;obtain ⟨Ao8,co8,eo8,_⟩:=Kd.Q_slice Bm.out;subst eo8;have BP:=cz0 Ba.out;have BQ:=cz1 Ba.out;have BR:=cz2 Ba.out;have BS:=bF Ba.out 0;have BT:=bF Ba.out 1;have BU:=bF Ba.out 2;obtain ⟨Ao10,co10,eo10⟩:=rC Bn.out;subst eo10;obtain ⟨Ao11,co11,eo11⟩:=rC Bo.out;subst eo11)|((with_reducible refine gC (f:=16) rfl ?_);refine goesL_ (some 21) rfl rfl Try.func16 (by kernel_rfl) rfl #[.agg #[.slice Ao8 t232.length co8,.slice Ao10 t235.length co10,.slice Ao11 t238.length co11]] rfl (by (try simp only [lM,lC,lN]);first|done|rfl|(simp only [lD,lT];rfl)) ?_;(with_reducible refine (impl_SigsOk.calls k _ _ t232 _ _ t235 _ _ t238 t242 _ ?side1 ?side2 ?side3 ?side4 ?side5 ?side6 A4.out).mono ?_);(case side1=>refine (qR (e:=4) (base:=w.heap.size) (ok:=fun k_=>some k_≠(.slice Ao10 t235.length co10:Value).ownBlock) (n:=t232.length) (c:=co8) ?_).2.2;exact (by (with_reducible repeat (first|apply Kd.Q_alloc|apply Kd.Q_drewN|apply Kd.Q_drew));exact (qM (Kd.Q_far (p:=⟨Bc,2,none⟩) (Kd.Q_far (p:=⟨Bc,1,none⟩) (Kd.Q_far (p:=⟨Bc,0,none⟩) (Kd.Q_types Bm.out Ba.out (by decide)) (fun _ hk=>hk.2) (.slice Ao8 t232.length co8)) (fun _ hk=>hk.2) (.slice Ao10 t235.length co10)) (fun _ hk=>hk.2) (.slice Ao11 t238.length co11)) (fun _ h_=>h_.1))));(case side2=>exact (qR Bm.out).2.1);(case side3=>refine (rR (e:=4) (base:=w.heap.size) (ok:=fun k_=>some k_≠(.slice Ao8 t232.length co8:Value).ownBlock) (n:=t235.length) (c:=co10) ?_).2.2;exact (by (with_reducible repeat (first|apply rA|apply rN|apply rD));exact (rM (rF (p:=⟨Bc,2,none⟩) (rF (p:=⟨Bc,1,none⟩) (rF (p:=⟨Bc,0,none⟩) (rT Bn.out Ba.out (by decide)) (fun _ hk=>hk.2) (.slice Ao8 t232.length co8)) (fun _ hk=>hk.2) (.slice Ao10 t235.length co10)) (fun _ hk=>hk.2) (.slice Ao11 t238.length co11)) (fun _ h_=>h_.1))));(case side4=>exact (rR Bn.out).2.1);(case side5=>refine (rR (e:=3) (base:=w.heap.size) (ok:=fun k_=>True) (n:=t238.length) (c:=co11) ?_).2.2;exact (by (with_reducible repeat (first|apply rA|apply rN|apply rD));exact (rM (rF (p:=⟨Bc,2,none⟩) (rF (p:=⟨Bc,1,none⟩) (rF (p:=⟨Bc,0,none⟩) (rT Bo.out Ba.out (by decide)) (fun _ hk=>hk.2) (.slice Ao8 t232.length co8)) (fun _ hk=>hk.2) (.slice Ao10 t235.length co10)) (fun _ hk=>hk.2) (.slice Ao11 t238.length co11)) (fun _ h_=>h_.1))));(case side6=>exact (rR Bo.out).2.1);rintro e w12 ⟨rfl,hb⟩;refine ⟨_,rfl,?_⟩;have n0_:=Am (Kd.Q_below (by (with_reducible repeat (first|apply Kd.Q_alloc|apply Kd.Q_drewN|apply Kd.Q_drew));exact (qM (Kd.Q_far (p:=⟨Bc,2,none⟩) (Kd.Q_far (p:=⟨Bc,1,none⟩) (Kd.Q_far (p:=⟨Bc,0,none⟩) (Kd.Q_types Bm.out Ba.out (by decide)) (fun _ hk=>hk.2) (.slice Ao8 t232.length co8)) (fun _ hk=>hk.2) (.slice Ao10 t235.length co10)) (fun _ hk=>hk.2) (.slice Ao11 t238.length co11)) (fun _ h_=>h_.1))) hb);have n1_:=Am (rB (by (with_reducible repeat (first|apply rA|apply rN|apply rD));exact (rM (rF (p:=⟨Bc,2,none⟩) (rF (p:=⟨Bc,1,none⟩) (rF (p:=⟨Bc,0,none⟩) (rT Bn.out Ba.out (by decide)) (fun _ hk=>hk.2) (.slice Ao8 t232.length co8)) (fun _ hk=>hk.2) (.slice Ao10 t235.length co10)) (fun _ hk=>hk.2) (.slice Ao11 t238.length co11)) (fun _ h_=>h_.1))) hb);have n2_:=Am (rB (by (with_reducible repeat (first|apply rA|apply rN|apply rD));exact (rM (rF (p:=⟨Bc,2,none⟩) (rF (p:=⟨Bc,1,none⟩) (rF (p:=⟨Bc,0,none⟩) (rT Bo.out Ba.out (by decide)) (fun _ hk=>hk.2) (.slice Ao8 t232.length co8)) (fun _ hk=>hk.2) (.slice Ao10 t235.length co10)) (fun _ hk=>hk.2) (.slice Ao11 t238.length co11)) (fun _ h_=>h_.1))) hb);have n3_:=Am (bB (g:=Bc) (o:=.cells #[.slice Ao8 t232.length co8,.slice Ao10 t235.length co10,.slice Ao11 t238.length co11] 26 (0,0)) (by (with_reducible repeat (first|refine bN ?_ _|refine bD ?_|refine bA ?_ _));refine bT (cs:=#[.slice Ao8 t232.length co8,.slice Ao10 t235.length co10,.slice none 0 0]) ?_ 2 _ rfl;(with_reducible repeat (first|refine bN ?_ _|refine bD ?_|refine bA ?_ _));refine bT (cs:=#[.slice Ao8 t232.length co8,.slice none 0 0,.slice none 0 0]) ?_ 1 _ rfl;(with_reducible repeat (first|refine bN ?_ _|refine bD ?_|refine bA ?_ _));refine bT (cs:=#[.slice none 0 0,.slice none 0 0,.slice none 0 0]) ?_ 0 _ rfl;(with_reducible repeat (first|refine bN ?_ _|refine bD ?_|refine bA ?_ _));exact Ba.out) hb);have n4_:=Am (bP (by repeat (first|(with_reducible first|exact HB.out|apply oA|apply pN|apply o1|refine bS ?_ Bk.out)|exact HB.out)) hb);clear Bm Bn Bo Ba HB;revert n0_ n1_ n2_ n3_ n4_;intro Bm Bn Bo Ba HB;(try clear hb);(try clear hb2);(try clear hk);(try clear hi)))
 (try simp only [Act.put,lA,lZ,lS])
 go_cut [29] (fun v29 wc=>∃ (kq:Nat) (x29_4:Bool),v29=.bool x29_4∧Aside0 (laws_FnSigsDrain.j0 kq t242 x29_4 t232 t235 t238=some r)∧Aside0 (kq≤k)∧Aside0 (Kd.Q Kd.bool 4 wc w.heap.size (fun k_=>some k_≠((.slice Ao10 t235.length co10):Value).ownBlock) (.slice Ao8 t232.length co8) t232)∧Aside0 (Kd.R Kd.bool 4 wc w.heap.size (fun k_=>some k_≠((.slice Ao8 t232.length co8):Value).ownBlock) (.slice Ao10 t235.length co10) t235)∧Aside0 (Kd.R (Kd.int .i64) 3 wc w.heap.size (fun _=>True) (.slice Ao11 t238.length co11) t238)∧Aside0 (wc.heap[Bc]?=some (.cells #[(.slice Ao8 t232.length co8),(.slice Ao10 t235.length co10),(.slice Ao11 t238.length co11)] 26 (0,0)))∧Aside0 (Below w.heap.size w wc))
 case first =>
  have H:=HC5.out
  clear HC5
  replace H:=oC H
  obtain ⟨t243,A130,H⟩:=H
  replace H:(if (t242 != t243)=true then (laws_FnSigsDrain.j0 k t242 true t232 t235 t238) else (laws_FnSigsDrain.j0 k t242 (!t242) t232 t235 t238))=some r:=H
  have A13:=Am A130
  clear A130
  by_cases c14:(t242 != t243)=true
  rotate_left
  ·rw [if_neg c14] at H
   have c14b0:(t242 != t243)=false:=by simpa using c14
   (try (have c14b1:decide (t242=t243)=true:=by simpa using c14))
   (try (have c14b2:(t242 == t243)=true:=by simpa using c14))
   clear c14
   (first|rw [c14b0]|(simp only [i64_w,i32_w];rw [c14b0])|skip)
   have H':=Am H
   clear H
   have BE:=cz0 Ba.out
   have BF:=cz1 Ba.out
   have BG:=cz2 Ba.out
   have BH:=bF Ba.out 0
   have BI:=bF Ba.out 1
   have BJ:=bF Ba.out 2
   go_wp2_with (first|((with_reducible refine gC (f:=18) rfl ?_);refine goesL_ (some 24) rfl rfl Try.func18 (by kernel_rfl) rfl #[.agg #[.slice Ao8 t232.length co8,.slice Ao10 t235.length co10,.slice Ao11 t238.length co11]] rfl (by (try simp only [lM,lC,lN]);first|done|rfl|(simp only [lD,lT];rfl)) ?_;(with_reducible refine (spec_SigsOk.calls k _ _ t232 _ _ t235 _ _ t238 t243 _ ?side1 ?side2 ?side3 ?side4 ?side5 ?side6 A13.out).mono ?_);(case side1=>exact cL (qR Bm.out).2.2);(case side2=>exact (qR Bm.out).2.1);(case side3=>exact cL (rR Bn.out).2.2);(case side4=>exact (rR Bn.out).2.1);(case side5=>exact cL (rR Bo.out).2.2);(case side6=>exact (rR Bo.out).2.1);rintro e w18 ⟨rfl,hb⟩;refine ⟨_,rfl,?_⟩;have n0_:=Am (Kd.Q_below (qL Bm.out) hb);have n1_:=Am (rB (rL Bn.out) hb);have n2_:=Am (rB (rL Bo.out) hb);have n3_:=Am (bX Ba.out hb);have n4_:=Am (bP (by repeat (first|(with_reducible first|exact HB.out|apply oA|apply pN|apply o1|refine bS ?_ Bk.out)|exact HB.out)) hb);clear Bm Bn Bo Ba HB;revert n0_ n1_ n2_ n3_ n4_;intro Bm Bn Bo Ba HB;(try clear hb);(try clear hb2);(try clear hk);(try clear hi)))
   go_meet
   case rel=>exact ⟨_,(!t242),(by first|rfl|(simp;done)|(simp [*];done)),H',⟨by first|omega|exact nR _⟩,⟨by (with_reducible repeat (first|apply Kd.Q_alloc|apply Kd.Q_drewN|apply Kd.Q_drew));exact Bm.out⟩,⟨by (with_reducible repeat (first|apply rA|apply rN|apply rD));exact Bn.out⟩,⟨by (with_reducible repeat (first|apply rA|apply rN|apply rD));exact Bo.out⟩,⟨by (with_reducible repeat (first|refine bN ?_ _|refine bD ?_|refine bA ?_ _));exact Ba.out⟩,⟨by repeat (first|(with_reducible first|exact HB.out|apply oA|apply pN|apply o1|refine bS ?_ Bk.out)|exact HB.out)⟩⟩
  rw [if_pos c14] at H
  have c14b0:(t242 != t243)=true:=c14
  (try (have c14b1:decide (t242=t243)=false:=by simpa using c14))
  (try (have c14b2:(t242 == t243)=false:=by simpa using c14))
  (try (have c14b3:¬ (t242=t243):=by simpa using c14))
  clear c14
  (first|rw [c14b0]|(simp only [i64_w,i32_w];rw [c14b0])|skip)
  have H':=Am H
  clear H
  have By:=cz0 Ba.out
  have Bz:=cz1 Ba.out
  have BA:=cz2 Ba.out
  have BB:=bF Ba.out 0
  have BC:=bF Ba.out 1
  have BD:=bF Ba.out 2
  go_wp2_with (first|((with_reducible refine gC (f:=18) rfl ?_);refine goesL_ (some 24) rfl rfl Try.func18 (by kernel_rfl) rfl #[.agg #[.slice Ao8 t232.length co8,.slice Ao10 t235.length co10,.slice Ao11 t238.length co11]] rfl (by (try simp only [lM,lC,lN]);first|done|rfl|(simp only [lD,lT];rfl)) ?_;(with_reducible refine (spec_SigsOk.calls k _ _ t232 _ _ t235 _ _ t238 t243 _ ?side1 ?side2 ?side3 ?side4 ?side5 ?side6 A13.out).mono ?_);(case side1=>exact cL (qR Bm.out).2.2);(case side2=>exact (qR Bm.out).2.1);(case side3=>exact cL (rR Bn.out).2.2);(case side4=>exact (rR Bn.out).2.1);(case side5=>exact cL (rR Bo.out).2.2);(case side6=>exact (rR Bo.out).2.1);rintro e w16 ⟨rfl,hb⟩;refine ⟨_,rfl,?_⟩;have n0_:=Am (Kd.Q_below (qL Bm.out) hb);have n1_:=Am (rB (rL Bn.out) hb);have n2_:=Am (rB (rL Bo.out) hb);have n3_:=Am (bX Ba.out hb);have n4_:=Am (bP (by repeat (first|(with_reducible first|exact HB.out|apply oA|apply pN|apply o1|refine bS ?_ Bk.out)|exact HB.out)) hb);clear Bm Bn Bo Ba HB;revert n0_ n1_ n2_ n3_ n4_;intro Bm Bn Bo Ba HB;(try clear hb);(try clear hb2);(try clear hk);(try clear hi)))
  go_meet
  case rel=>exact ⟨_,(true),(by first|rfl|(simp;done)|(simp [*];done)),H',⟨by first|omega|exact nR _⟩,⟨by (with_reducible repeat (first|apply Kd.Q_alloc|apply Kd.Q_drewN|apply Kd.Q_drew));exact Bm.out⟩,⟨by (with_reducible repeat (first|apply rA|apply rN|apply rD));exact Bn.out⟩,⟨by (with_reducible repeat (first|apply rA|apply rN|apply rD));exact Bo.out⟩,⟨by (with_reducible repeat (first|refine bN ?_ _|refine bD ?_|refine bA ?_ _));exact Ba.out⟩,⟨by repeat (first|(with_reducible first|exact HB.out|apply oA|apply pN|apply o1|refine bS ?_ Bk.out)|exact HB.out)⟩⟩
 case rest =>
  clear HC5
  try clear c1
  try clear c2
  try clear c2b0
  try clear c2b1
  try clear p2
  try clear c4
  try clear c14
  try clear c14b0
  try clear c14b1
  try clear c14b2
  try clear c16
  try clear c17
  try clear c18
  try clear By
  try clear Bz
  try clear BA
  try clear BE
  try clear BF
  try clear BG
  try clear BP
  try clear BQ
  try clear BR
  try clear BB
  try clear BC
  try clear BD
  try clear BH
  try clear BI
  try clear BJ
  try clear BS
  try clear BT
  try clear BU
  obtain ⟨kq,x29_4,rfl,HA,BV,Bd,Be,Bg,Ba,HB⟩:=hcut
  cases kq with
 |zero=>exact absurd HA.out (by simp [laws_FnSigsDrain.j0])
 |succ kj4 =>
   have H:=HA.out
   clear HA
   simp only [laws_FnSigsDrain.j0] at H
   by_cases c19:x29_4=true
   ·subst c19
    have H1:((spec_SigsOk.f kj4 t232 t235 t238).bind fun t244=>(some (t242 == t244)))=some r:=by rw [if_pos rfl] at H;exact H
    clear H
    have H:=H1
    clear H1
    replace H:=oC H
    obtain ⟨t244,A200,H⟩:=H
    replace H:(some (t242 == t244))=some r:=H
    have A20:=Am A200
    clear A200
    obtain rfl:=oJ H
    have BW:=cz0 Ba.out
    have BX:=cz1 Ba.out
    have BY:=cz2 Ba.out
    have BZ:=bF Ba.out 0
    have B0:=bF Ba.out 1
    have B1:=bF Ba.out 2
    go_wp2_with (first|((with_reducible refine gC (f:=18) rfl ?_);refine goesL_ (some 32) rfl rfl Try.func18 (by kernel_rfl) rfl #[.agg #[.slice Ao8 t232.length co8,.slice Ao10 t235.length co10,.slice Ao11 t238.length co11]] rfl (by (try simp only [lM,lC,lN]);first|done|rfl|(simp only [lD,lT];rfl)) ?_;(with_reducible refine (spec_SigsOk.calls kj4 _ _ t232 _ _ t235 _ _ t238 t244 _ ?side1 ?side2 ?side3 ?side4 ?side5 ?side6 A20.out).mono ?_);(case side1=>exact cL (qR Bd.out).2.2);(case side2=>exact (qR Bd.out).2.1);(case side3=>exact cL (rR Be.out).2.2);(case side4=>exact (rR Be.out).2.1);(case side5=>exact cL (rR Bg.out).2.2);(case side6=>exact (rR Bg.out).2.1);rintro e w22 ⟨rfl,hb⟩;refine ⟨_,rfl,?_⟩;have n0_:=Am (Kd.Q_below (qL Bd.out) hb);have n1_:=Am (rB (rL Be.out) hb);have n2_:=Am (rB (rL Bg.out) hb);have n3_:=Am (bX Ba.out hb);have n4_:=Am (bP (by repeat (first|(with_reducible first|exact HB.out|apply oA|apply pN|apply o1|refine bS ?_ Bk.out)|exact HB.out)) hb);clear Bd Be Bg Ba HB;revert n0_ n1_ n2_ n3_ n4_;intro Bd Be Bg Ba HB;(try clear hb);(try clear hb2);(try clear hk);(try clear hi)))
    go_ret
    exact ⟨by first|rfl|(simp [errW_none,errW_some] <;> rfl)|(simp [*,errW_none,errW_some] <;> rfl),by repeat (first|(with_reducible first|exact HB.out|apply oA|apply pN|apply o1|refine bS ?_ Bk.out)|exact HB.out)⟩
   replace c19:=Bool.eq_false_iff.mpr c19
   subst c19
   have H1:(laws_FnSigsDrain.l0 kj4 1 t232 t235 t238 t232 t235 t238)=some r:=by rw [if_neg (show ¬ (false=true) by decide)] at H;exact H
   clear H
   have H:=H1
   clear H1
   have H':=Am H
   clear H
   have B2:=cz0 Ba.out
   have B3:=cz1 Ba.out
   have B4:=cz2 Ba.out
   have B5:=bF Ba.out 0
   have B6:=bF Ba.out 1
   have B7:=bF Ba.out 2
   go_wp2_with (first|((with_reducible refine gD (N:=5) rfl ?_);refine bI ?hg (N:=5) ?hd (cs:=#[.slice none 0 0,.slice none 0 0,.slice none 0 0]) (t:=26) ?hr ?_;(case hd=>rfl);(case hg=>rfl);(case hr=>first|(go_simp;done)|(go_simp;rfl));intro Bb hg w24 hbox hb;have n0_:=Am (Kd.Q_below (qL Bd.out) hb);have n1_:=Am (rB (rL Be.out) hb);have n2_:=Am (rB (rL Bg.out) hb);have n3_:=Am (bX Ba.out hb);have n4_:=Am (bP (by repeat (first|(with_reducible first|exact HB.out|apply oA|apply pN|apply o1|refine bS ?_ Bk.out)|exact HB.out)) hb);have n5_:=Am (hbox);have n6_:=Am ((by rw [hg];exact (bZ (by repeat (first|(with_reducible first|exact HB.out|apply oA|apply pN|apply o1|refine bS ?_ Bk.out)|exact HB.out))):w.heap.size≤Bb));have n7_:=Am ((by rw [hg];exact (bZ (by repeat (first|(with_reducible first|exact HB.out|apply oA|apply pN|apply o1|refine bS ?_ Bk.out)|exact HB.out))):w.heap.size≤Bb));have n8_:=Am ((nL Ba.out hg));have n9_:=Am ((nG Ba.out hg));clear Bd Be Bg Ba HB;revert n0_ n1_ n2_ n3_ n4_ n5_ n6_ n7_ n8_ n9_;intro Bd Be Bg Ba HB Bf D4 Bp Bq Bs;clear hb hbox hg;have D5:=Bs.out;have D6:=Bq.out;have B8:=cz0 Bf.out;have B9:=cz1 Bf.out;have Da:=cz2 Bf.out;have Db:=bF Bf.out 0;have Dc:=bF Bf.out 1;have Dd:=bF Bf.out 2))
   go_loopg [6] kj4 (fun kq v6 w'=>∃ (x6_2:Int) (x246000_2:List Bool) (x246001_2:List Bool) (x246002_2:List Int) (u246000:Value) (u246001:Value) (u246002:Value),v6=.int .i64 x6_2∧Aside0 (laws_FnSigsDrain.l0 kq x6_2 t232 t235 t238 x246000_2 x246001_2 x246002_2=some r)∧Aside0 (kq≤kj4)∧Aside0 (Kd.Q Kd.bool 4 w' w.heap.size (fun k_=>some k_≠((.slice Ao10 t235.length co10):Value).ownBlock∧some k_≠(u246001:Value).ownBlock) (.slice Ao8 t232.length co8) t232)∧Aside0 (Kd.R Kd.bool 4 w' w.heap.size (fun k_=>some k_≠((.slice Ao8 t232.length co8):Value).ownBlock∧some k_≠(u246000:Value).ownBlock) (.slice Ao10 t235.length co10) t235)∧Aside0 (Kd.R (Kd.int .i64) 3 w' w.heap.size (fun _=>True) (.slice Ao11 t238.length co11) t238)∧Aside0 (Kd.Q Kd.bool 4 w' w.heap.size (fun k_=>some k_≠((.slice Ao10 t235.length co10):Value).ownBlock∧some k_≠(u246001:Value).ownBlock) u246000 x246000_2)∧Aside0 (Kd.R Kd.bool 4 w' w.heap.size (fun k_=>some k_≠((.slice Ao8 t232.length co8):Value).ownBlock∧some k_≠(u246000:Value).ownBlock) u246001 x246001_2)∧Aside0 (Kd.R (Kd.int .i64) 3 w' w.heap.size (fun _=>True) u246002 x246002_2)∧Aside0 (w'.heap[Bc]?=some (.cells #[(.slice Ao8 t232.length co8),(.slice Ao10 t235.length co10),(.slice Ao11 t238.length co11)] 26 (0,0)))∧Aside0 (w'.heap[Bb]?=some (.cells #[u246000,u246001,u246002] 26 (0,0)))∧Aside0 (Below w.heap.size w w'))
   case atStart=>exact ⟨(1),(t232),(t235),(t238),(.slice Ao8 t232.length co8),(.slice Ao10 t235.length co10),(.slice Ao11 t238.length co11),(by first|rfl|(simp;done)|(simp [*];done)),H',⟨nR _⟩,⟨by (with_reducible repeat (first|apply Kd.Q_alloc|apply Kd.Q_drewN|apply Kd.Q_drew));exact qM (Kd.Q_far (p:=⟨Bb,2,none⟩) (Kd.Q_far (p:=⟨Bb,1,none⟩) (Kd.Q_far (p:=⟨Bb,0,none⟩) (Kd.Q_types Bd.out Bf.out (by decide)) (fun _ hk=>hk.2) (.slice Ao8 t232.length co8)) (fun _ hk=>hk.2) (.slice Ao10 t235.length co10)) (fun _ hk=>hk.2) (.slice Ao11 t238.length co11)) (fun _ hk=>⟨hk.1,hk.1⟩)⟩,⟨by (with_reducible repeat (first|apply rA|apply rN|apply rD));exact rM (rF (p:=⟨Bb,2,none⟩) (rF (p:=⟨Bb,1,none⟩) (rF (p:=⟨Bb,0,none⟩) (rT Be.out Bf.out (by decide)) (fun _ hk=>hk.2) (.slice Ao8 t232.length co8)) (fun _ hk=>hk.2) (.slice Ao10 t235.length co10)) (fun _ hk=>hk.2) (.slice Ao11 t238.length co11)) (fun _ hk=>⟨hk.1,hk.1⟩)⟩,⟨by (with_reducible repeat (first|apply rA|apply rN|apply rD));exact rM (rF (p:=⟨Bb,2,none⟩) (rF (p:=⟨Bb,1,none⟩) (rF (p:=⟨Bb,0,none⟩) (rT Bg.out Bf.out (by decide)) (fun _ hk=>hk.2) (.slice Ao8 t232.length co8)) (fun _ hk=>hk.2) (.slice Ao10 t235.length co10)) (fun _ hk=>hk.2) (.slice Ao11 t238.length co11)) (fun _ hk=>trivial)⟩,⟨by (with_reducible repeat (first|apply Kd.Q_alloc|apply Kd.Q_drewN|apply Kd.Q_drew));exact qM (Kd.Q_far (p:=⟨Bb,2,none⟩) (Kd.Q_far (p:=⟨Bb,1,none⟩) (Kd.Q_far (p:=⟨Bb,0,none⟩) (Kd.Q_types Bd.out Bf.out (by decide)) (fun _ hk=>hk.2) (.slice Ao8 t232.length co8)) (fun _ hk=>hk.2) (.slice Ao10 t235.length co10)) (fun _ hk=>hk.2) (.slice Ao11 t238.length co11)) (fun _ hk=>⟨hk.1,hk.1⟩)⟩,⟨by (with_reducible repeat (first|apply rA|apply rN|apply rD));exact rM (rF (p:=⟨Bb,2,none⟩) (rF (p:=⟨Bb,1,none⟩) (rF (p:=⟨Bb,0,none⟩) (rT Be.out Bf.out (by decide)) (fun _ hk=>hk.2) (.slice Ao8 t232.length co8)) (fun _ hk=>hk.2) (.slice Ao10 t235.length co10)) (fun _ hk=>hk.2) (.slice Ao11 t238.length co11)) (fun _ hk=>⟨hk.1,hk.1⟩)⟩,⟨by (with_reducible repeat (first|apply rA|apply rN|apply rD));exact rM (rF (p:=⟨Bb,2,none⟩) (rF (p:=⟨Bb,1,none⟩) (rF (p:=⟨Bb,0,none⟩) (rT Bg.out Bf.out (by decide)) (fun _ hk=>hk.2) (.slice Ao8 t232.length co8)) (fun _ hk=>hk.2) (.slice Ao10 t235.length co10)) (fun _ hk=>hk.2) (.slice Ao11 t238.length co11)) (fun _ hk=>trivial)⟩,⟨by (with_reducible repeat (first|refine bN ?_ _|refine bD ?_|refine bA ?_ _|refine bE ?_ Bq.out _));exact Ba.out⟩,⟨by (with_reducible repeat (first|refine bN ?_ _|refine bD ?_|refine bA ?_ _));refine bT (cs:=#[.slice Ao8 t232.length co8,.slice Ao10 t235.length co10,.slice none 0 0]) ?_ 2 _ rfl;(with_reducible repeat (first|refine bN ?_ _|refine bD ?_|refine bA ?_ _));refine bT (cs:=#[.slice Ao8 t232.length co8,.slice none 0 0,.slice none 0 0]) ?_ 1 _ rfl;(with_reducible repeat (first|refine bN ?_ _|refine bD ?_|refine bA ?_ _));refine bT (cs:=#[.slice none 0 0,.slice none 0 0,.slice none 0 0]) ?_ 0 _ rfl;(with_reducible repeat (first|refine bN ?_ _|refine bD ?_|refine bA ?_ _));exact Bf.out⟩,⟨by repeat (first|(with_reducible first|exact HB.out|apply oA|apply pN|apply o1|refine bS ?_ Bk.out|refine bS ?_ Bp.out)|exact HB.out)⟩⟩
   case round =>
    clear H'
    try clear c1
    try clear c2
    try clear c2b0
    try clear c2b1
    try clear p2
    try clear c4
    try clear c14
    try clear c14b0
    try clear c14b1
    try clear c14b2
    try clear c16
    try clear c17
    try clear c18
    try clear c19
    try clear c25
    try clear By
    try clear Bz
    try clear BA
    try clear BE
    try clear BF
    try clear BG
    try clear BW
    try clear BX
    try clear BY
    try clear B2
    try clear B3
    try clear B4
    try clear B8
    try clear B9
    try clear Da
    try clear BP
    try clear BQ
    try clear BR
    try clear BB
    try clear BC
    try clear BD
    try clear BH
    try clear BI
    try clear BJ
    try clear BZ
    try clear B0
    try clear B1
    try clear B5
    try clear B6
    try clear B7
    try clear Db
    try clear Dc
    try clear Dd
    try clear BS
    try clear BT
    try clear BU
    try clear p2
    obtain ⟨x6_2,x246000_2,x246001_2,x246002_2,u246000,u246001,u246002,rfl,HA,HK2,Bd,Be,Bg,Bh,Bi,Bj,Ba,Bf,HB⟩:=hrel
    cases gk with
   |zero=>exact absurd HA.out (by simp [laws_FnSigsDrain.l0])
   |succ k2 =>
     have H:=HA.out
     clear HA
     simp only [laws_FnSigsDrain.l0] at H
     by_cases c27:x6_2≤8
     rotate_left
     ·rw [if_neg c27] at H
      have c27b0:decide (x6_2≤8)=false:=dF c27
      clear c27
      replace H:=oC H
      obtain ⟨⟨t246,t249,t252,t255,t256,t257⟩,A570,H⟩:=H
      replace H:(some (!t257))=some r:=H
      have A57:=Am A570
      clear A570
      obtain rfl:=oJ H
      have Fi:=Bs.out
      have Fj:=Bq.out
      have DR:=cz0 Bf.out
      have DS:=cz1 Bf.out
      have DT:=cz2 Bf.out
      have DU:=bF Bf.out 0
      have DV:=bF Bf.out 1
      have DW:=bF Bf.out 2
      obtain ⟨Ao60,co60,eo60,_⟩:=Kd.Q_slice Bh.out
      subst eo60
      obtain ⟨Ao61,co61,eo61⟩:=rC Bi.out
      subst eo61
      obtain ⟨Ao62,co62,eo62⟩:=rC Bj.out
      subst eo62
      go_wp2_with (first|((with_reducible refine gC (f:=13) rfl ?_);refine goesL_ (some 71) rfl rfl Try.func13 (by kernel_rfl) rfl #[.agg #[.slice Ao60 x246000_2.length co60,.slice Ao61 x246001_2.length co61,.slice Ao62 x246002_2.length co62]] rfl (by (try simp only [lM,lC,lN]);first|done|rfl|(simp only [lD,lT];rfl)) ?_;(with_reducible refine (impl_SigsNext.calls k2 _ _ x246000_2 _ _ x246001_2 _ _ x246002_2 t246 t249 t252 t255 t256 t257 _ ?side1 ?side2 ?side3 ?side4 ?side5 ?side6 A57.out).mono ?_);(case side1=>exact cL (qR Bh.out).2.2);(case side2=>exact (qR Bh.out).2.1);(case side3=>exact cL (rR Bi.out).2.2);(case side4=>exact (rR Bi.out).2.1);(case side5=>exact cL (rR Bj.out).2.2);(case side6=>exact (rR Bj.out).2.1);rintro e w63 ⟨v247,v250,v253,rfl,ho0,ho1,ho2,hb⟩;refine ⟨_,rfl,?_⟩;have n0_:=Am (qM (qJ (qJ (qK (qL Bd.out) hb) (rZ ho0)) (rZ ho1)) (fun _ h_=>h_.1));have n1_:=Am (rM (rJ (rJ (rK (rL Be.out) hb) (rZ ho0)) (rZ ho1)) (fun _ h_=>h_.1));have n2_:=Am (rX (rL Bg.out) (rZ ho2) hb);have n3_:=Am (qM (qJ (qJ (qK (qL Bh.out) hb) (rZ ho0)) (rZ ho1)) (fun _ h_=>h_.1));have n4_:=Am (rM (rJ (rJ (rK (rL Bi.out) hb) (rZ ho0)) (rZ ho1)) (fun _ h_=>h_.1));have n5_:=Am (rX (rL Bj.out) (rZ ho2) hb);have n6_:=Am (rW (rQ (rQ (rQ (rQ ho0 (qI (qL Bd.out))) (rI (rL Be.out))) (qI (qL Bh.out))) (rI (rL Bi.out))) (bZ (by repeat (first|(with_reducible first|exact HB.out|apply oA|apply pN|apply o1|refine bS ?_ Bk.out|refine bS ?_ Bp.out)|exact HB.out))));have n7_:=Am (rW (rQ (rQ (rQ (rQ ho1 (qI (qL Bd.out))) (rI (rL Be.out))) (qI (qL Bh.out))) (rI (rL Bi.out))) (bZ (by repeat (first|(with_reducible first|exact HB.out|apply oA|apply pN|apply o1|refine bS ?_ Bk.out|refine bS ?_ Bp.out)|exact HB.out))));have n8_:=Am (rW (rQ (rQ ho2 (rI (rL Bg.out))) (rI (rL Bj.out))) (bZ (by repeat (first|(with_reducible first|exact HB.out|apply oA|apply pN|apply o1|refine bS ?_ Bk.out|refine bS ?_ Bp.out)|exact HB.out))));have n9_:=Am (bX Ba.out hb);have n10_:=Am (bX Bf.out hb);have n11_:=Am (bP (by repeat (first|(with_reducible first|exact HB.out|apply oA|apply pN|apply o1|refine bS ?_ Bk.out|refine bS ?_ Bp.out)|exact HB.out)) hb);clear Bd Be Bg Bh Bi Bj Ba Bf HB;revert n0_ n1_ n2_ n3_ n4_ n5_ n6_ n7_ n8_ n9_ n10_ n11_;intro Bd Be Bg Bh Bi Bj BM BN BO Ba Bf HB;(try clear hb);(try clear hb2);(try clear hk);(try clear hi);(try clear ho0);(try clear ho1);(try clear ho2))|((with_reducible refine gD (N:=11) rfl ?_);refine bI ?hg (N:=11) ?hd (cs:=#[.slice none 0 0,.slice none 0 0,.slice none 0 0]) (t:=26) ?hr ?_;(case hd=>rfl);(case hg=>rfl);(case hr=>first|(go_simp;done)|(go_simp;rfl));intro Bt hg w64 hbox hb;have n0_:=Am (Kd.Q_below (qL Bd.out) hb);have n1_:=Am (rB (rL Be.out) hb);have n2_:=Am (rB (rL Bg.out) hb);have n3_:=Am (Kd.Q_below (qL Bh.out) hb);have n4_:=Am (rB (rL Bi.out) hb);have n5_:=Am (rB (rL Bj.out) hb);have n6_:=Am (rB (rL BM.out) hb);have n7_:=Am (rB (rL BN.out) hb);have n8_:=Am (rB (rL BO.out) hb);have n9_:=Am (bX Ba.out hb);have n10_:=Am (bX Bf.out hb);have n11_:=Am (bP (by repeat (first|(with_reducible first|exact HB.out|apply oA|apply pN|apply o1|refine bS ?_ Bk.out|refine bS ?_ Bp.out)|exact HB.out)) hb);have n12_:=Am (hbox);have n13_:=Am ((by rw [hg];exact (bZ (by repeat (first|(with_reducible first|exact HB.out|apply oA|apply pN|apply o1|refine bS ?_ Bk.out|refine bS ?_ Bp.out)|exact HB.out))):w.heap.size≤Bt));have n14_:=Am ((by rw [hg];exact (bZ (by repeat (first|(with_reducible first|exact HB.out|apply oA|apply pN|apply o1|refine bS ?_ Bk.out|refine bS ?_ Bp.out)|exact HB.out))):w.heap.size≤Bt));have n15_:=Am ((nL Ba.out hg));have n16_:=Am ((nG Ba.out hg));have n17_:=Am ((nL Bf.out hg));have n18_:=Am ((nG Bf.out hg));clear Bd Be Bg Bh Bi Bj BM BN BO Ba Bf HB;revert n0_ n1_ n2_ n3_ n4_ n5_ n6_ n7_ n8_ n9_ n10_ n11_ n12_ n13_ n14_ n15_ n16_ n17_ n18_;intro Bd Be Bg Bh Bi Bj BM BN BO Ba Bf HB Bu Fk Dy Dh Di Dj Dk;clear hb hbox hg;obtain ⟨Ao65,co65,eo65⟩:=rC BM.out;subst eo65;have Fl:=Di.out;have Fm:=Dh.out;have Fn:=Dk.out;have Fo:=Dj.out;have DX:=cz0 Bu.out;have DY:=cz1 Bu.out;have DZ:=cz2 Bu.out;have D0:=bF Bu.out 0;have D1:=bF Bu.out 1;have D2:=bF Bu.out 2;obtain ⟨Ao69,co69,eo69⟩:=rC BN.out;subst eo69;obtain ⟨Ao70,co70,eo70⟩:=rC BO.out;subst eo70))
      go_ret
      exact ⟨by first|rfl|(simp [errW_none,errW_some] <;> rfl)|(simp [*,errW_none,errW_some] <;> rfl),by repeat (first|(with_reducible first|exact HB.out|apply oA|apply pN|apply o1|refine bS ?_ Bk.out|refine bS ?_ Bp.out|refine bS ?_ Dy.out)|exact HB.out)⟩

     rw [if_pos c27] at H
     have c27b0:decide (x6_2≤8)=true:=dT c27
     clear c27
     have HC28:=Am H
     clear H
     go_upto_region 11 with (fail)
     go_cut [53] (fun v53 wc=>∃ (kq:Nat) (x53_27:Bool),v53=.bool x53_27∧Aside0 (laws_FnSigsDrain.j2 kq x6_2 x53_27 t232 t235 t238 x246000_2 x246001_2 x246002_2=some r)∧Aside0 (kq≤k2)∧Aside0 (Kd.Q Kd.bool 4 wc w.heap.size (fun k_=>some k_≠((.slice Ao10 t235.length co10):Value).ownBlock∧some k_≠(u246001:Value).ownBlock) (.slice Ao8 t232.length co8) t232)∧Aside0 (Kd.R Kd.bool 4 wc w.heap.size (fun k_=>some k_≠((.slice Ao8 t232.length co8):Value).ownBlock∧some k_≠(u246000:Value).ownBlock) (.slice Ao10 t235.length co10) t235)∧Aside0 (Kd.R (Kd.int .i64) 3 wc w.heap.size (fun _=>True) (.slice Ao11 t238.length co11) t238)∧Aside0 (Kd.Q Kd.bool 4 wc w.heap.size (fun k_=>some k_≠((.slice Ao10 t235.length co10):Value).ownBlock∧some k_≠(u246001:Value).ownBlock) u246000 x246000_2)∧Aside0 (Kd.R Kd.bool 4 wc w.heap.size (fun k_=>some k_≠((.slice Ao8 t232.length co8):Value).ownBlock∧some k_≠(u246000:Value).ownBlock) u246001 x246001_2)∧Aside0 (Kd.R (Kd.int .i64) 3 wc w.heap.size (fun _=>True) u246002 x246002_2)∧Aside0 (wc.heap[Bc]?=some (.cells #[(.slice Ao8 t232.length co8),(.slice Ao10 t235.length co10),(.slice Ao11 t238.length co11)] 26 (0,0)))∧Aside0 (wc.heap[Bb]?=some (.cells #[u246000,u246001,u246002] 26 (0,0)))∧Aside0 (Below w.heap.size w wc))
     case first =>
      have H:=HC28.out
      clear HC28
      obtain ⟨ji29,hji29⟩:∃ j_:Int,(wrap64 (x6_2 - 1))=j_:=⟨_,rfl⟩
      replace H:(if 0≤(ji29) then (if (ji29)<(t232.length:Int) then (if rdOf false t232 (ji29)=true then (if (ji29)<(t235.length:Int) then (laws_FnSigsDrain.j2 k2 x6_2 (!(rdOf false t235 (ji29))) t232 t235 t238 x246000_2 x246001_2 x246002_2) else (none)) else (laws_FnSigsDrain.j2 k2 x6_2 false t232 t235 t238 x246000_2 x246001_2 x246002_2)) else (none)) else (none))=some r:=by first|(rw [hji29] at H;exact H)|(simp only [hji29] at H ⊢;exact H)
      have hji29w:(IntKind.i64.wrap (x6_2 - 1))=ji29:=(i64_w _).trans hji29
      by_cases c30:0≤(ji29)
      rotate_left
      ·rw [if_neg c30] at H
       exact absurd H (by simp)
      rw [if_pos c30] at H
      have c30b0:decide (0≤(ji29))=true:=dT c30
      clear c30
      (first|rw [c30b0]|(simp only [i64_w,i32_w];rw [c30b0])|skip)
      by_cases c31:(ji29)<(t232.length:Int)
      rotate_left
      ·rw [if_neg c31] at H
       exact absurd H (by simp)
      rw [if_pos c31] at H
      have c31b0:decide ((ji29)<(t232.length:Int))=true:=dT c31
      clear c31
      obtain ⟨bq32,hbq32⟩:∃ b_:Bool,b_=(rdOf false t232 (ji29)):=⟨_,rfl⟩
      replace H:(if bq32=true then (if (ji29)<(t235.length:Int) then (laws_FnSigsDrain.j2 k2 x6_2 (!(rdOf false t235 (ji29))) t232 t235 t238 x246000_2 x246001_2 x246002_2) else (none)) else (laws_FnSigsDrain.j2 k2 x6_2 false t232 t235 t238 x246000_2 x246001_2 x246002_2))=some r:=by rw [← hbq32] at H;exact H
      have Nbq32:=Am hbq32
      clear hbq32
      by_cases c33:bq32=true
      rotate_left
      ·replace c33:=Bool.eq_false_iff.mpr c33
       subst c33
       have H1:(laws_FnSigsDrain.j2 k2 x6_2 false t232 t235 t238 x246000_2 x246001_2 x246002_2)=some r:=by rw [if_neg (show ¬ (false=true) by decide)] at H;exact H
       clear H
       have H:=H1
       clear H1
       have H':=Am H
       clear H
       have D9:=Bq.out
       have Fa:=Bs.out
       have Dr:=cz0 Ba.out
       have Ds:=cz1 Ba.out
       have Dt:=cz2 Ba.out
       have Du:=bF Ba.out 0
       have Dv:=bF Ba.out 1
       have Dw:=bF Ba.out 2
       have p259:0≤((ji29):Int):=oE (by first|(with_reducible assumption)|assumption)
       have q259:(ji29)<(t232.length:Int):=oE (by first|(with_reducible assumption)|assumption)
       obtain ⟨ad259,e259,hx259_0⟩:=Kd.at_bool (qR Bd.out).2.2 (ji29) p259 q259
       (try rw [← Nbq32.out] at hx259_0)
       cases e259
       replace p259:=eq_true p259
       replace q259:=eq_true q259
       go_wp2
       any_goals first|exact absurd Nbq32.out.symm (by assumption)|exact absurd (Nbq32.out.trans (by assumption)) (by decide)|skip
       go_meet
       case rel=>(try rw [← Nbq32.out]);exact ⟨_,(false),(by first|rfl|(simp;done)|(simp [*];done)),H',⟨by have:=BV.out;have:=HK2.out;first|omega|exact nR _⟩,⟨by (with_reducible repeat (first|apply Kd.Q_alloc|apply Kd.Q_drewN|apply Kd.Q_drew));exact Bd.out⟩,⟨by (with_reducible repeat (first|apply rA|apply rN|apply rD));exact Be.out⟩,⟨by (with_reducible repeat (first|apply rA|apply rN|apply rD));exact Bg.out⟩,⟨by (with_reducible repeat (first|apply Kd.Q_alloc|apply Kd.Q_drewN|apply Kd.Q_drew));exact Bh.out⟩,⟨by (with_reducible repeat (first|apply rA|apply rN|apply rD));exact Bi.out⟩,⟨by (with_reducible repeat (first|apply rA|apply rN|apply rD));exact Bj.out⟩,⟨by (with_reducible repeat (first|refine bN ?_ _|refine bD ?_|refine bA ?_ _));exact Ba.out⟩,⟨by (with_reducible repeat (first|refine bN ?_ _|refine bD ?_|refine bA ?_ _));exact Bf.out⟩,⟨by repeat (first|(with_reducible first|exact HB.out|apply oA|apply pN|apply o1|refine bS ?_ Bk.out|refine bS ?_ Bp.out)|exact HB.out)⟩⟩
      subst c33
      have H1:(if (ji29)<(t235.length:Int) then (laws_FnSigsDrain.j2 k2 x6_2 (!(rdOf false t235 (ji29))) t232 t235 t238 x246000_2 x246001_2 x246002_2) else (none))=some r:=by rw [if_pos rfl] at H;exact H
      clear H
      have H:=H1
      clear H1
      by_cases c34:(ji29)<(t235.length:Int)
      rotate_left
      ·rw [if_neg c34] at H
       exact absurd H (by simp)
      rw [if_pos c34] at H
      have c34b0:decide ((ji29)<(t235.length:Int))=true:=dT c34
      clear c34
      have H':=Am H
      clear H
      have D7:=Bq.out
      have D8:=Bs.out
      have Dl:=cz0 Ba.out
      have Dm:=cz1 Ba.out
      have Dn:=cz2 Ba.out
      have Do:=bF Ba.out 0
      have Dp:=bF Ba.out 1
      have Dq:=bF Ba.out 2
      have p259:0≤((ji29):Int):=oE (by first|(with_reducible assumption)|assumption)
      have q259:(ji29)<(t232.length:Int):=oE (by first|(with_reducible assumption)|assumption)
      obtain ⟨ad259,e259,hx259_0⟩:=Kd.at_bool (qR Bd.out).2.2 (ji29) p259 q259
      (try rw [← Nbq32.out] at hx259_0)
      cases e259
      replace p259:=eq_true p259
      replace q259:=eq_true q259
      have p260:0≤((ji29):Int):=oE (by first|(with_reducible assumption)|assumption)
      have q260:(ji29)<(t235.length:Int):=oE (by first|(with_reducible assumption)|assumption)
      obtain ⟨ad260,e260,hx260_0⟩:=Kd.at_bool (rR Be.out).2.2 (ji29) p260 q260
      (try rw [← Nbq32.out] at hx260_0)
      cases e260
      replace p260:=eq_true p260
      replace q260:=eq_true q260
      go_wp2
      any_goals first|exact absurd Nbq32.out.symm (by assumption)|exact absurd (Nbq32.out.trans (by assumption)) (by decide)|skip
      go_meet
      case rel=>(try rw [← Nbq32.out]);exact ⟨_,(!(rdOf false t235 (ji29))),(by first|rfl|(simp;done)|(simp only [← hji29] <;> (first|rfl|simp))|(simp [*];done)),H',⟨by have:=BV.out;have:=HK2.out;first|omega|exact nR _⟩,⟨by (with_reducible repeat (first|apply Kd.Q_alloc|apply Kd.Q_drewN|apply Kd.Q_drew));exact Bd.out⟩,⟨by (with_reducible repeat (first|apply rA|apply rN|apply rD));exact Be.out⟩,⟨by (with_reducible repeat (first|apply rA|apply rN|apply rD));exact Bg.out⟩,⟨by (with_reducible repeat (first|apply Kd.Q_alloc|apply Kd.Q_drewN|apply Kd.Q_drew));exact Bh.out⟩,⟨by (with_reducible repeat (first|apply rA|apply rN|apply rD));exact Bi.out⟩,⟨by (with_reducible repeat (first|apply rA|apply rN|apply rD));exact Bj.out⟩,⟨by (with_reducible repeat (first|refine bN ?_ _|refine bD ?_|refine bA ?_ _));exact Ba.out⟩,⟨by (with_reducible repeat (first|refine bN ?_ _|refine bD ?_|refine bA ?_ _));exact Bf.out⟩,⟨by repeat (first|(with_reducible first|exact HB.out|apply oA|apply pN|apply o1|refine bS ?_ Bk.out|refine bS ?_ Bp.out)|exact HB.out)⟩⟩
     case rest =>
      clear HC28
      try clear c1
      try clear c2
      try clear c2b0
      try clear c2b1
      try clear p2
      try clear q2
      try clear hx2
      try clear c3
      try clear q3
      try clear c4
      try clear p6
      try clear c14
      try clear c14b0
      try clear c14b1
      try clear c14b2
      try clear c16
      try clear c17
      try clear c18
      try clear c19
      try clear c25
      try clear p25
      try clear q25
      try clear hx25
      try clear p26
      try clear q26
      try clear hx26
      try clear c27
      try clear c27b0
      try clear c30
      try clear c30b0
      try clear c31
      try clear c31b0
      try clear q32
      try clear c33
      try clear c34
      try clear c34b0
      try clear c35
      try clear c37
      try clear By
      try clear Bz
      try clear BA
      try clear BE
      try clear BF
      try clear BG
      try clear BW
      try clear BX
      try clear BY
      try clear B2
      try clear B3
      try clear B4
      try clear B8
      try clear B9
      try clear Da
      try clear Dl
      try clear Dm
      try clear Dn
      try clear Dr
      try clear Ds
      try clear Dt
      try clear BP
      try clear BQ
      try clear BR
      try clear BB
      try clear BC
      try clear BD
      try clear BH
      try clear BI
      try clear BJ
      try clear BZ
      try clear B0
      try clear B1
      try clear B5
      try clear B6
      try clear B7
      try clear Db
      try clear Dc
      try clear Dd
      try clear Do
      try clear Dp
      try clear Dq
      try clear Du
      try clear Dv
      try clear Dw
      try clear BS
      try clear BT
      try clear BU
      try clear hx259_0
      try clear hx260_0
      try clear p2
      try clear p259
      try clear p260
      try clear q259
      try clear q260
      obtain ⟨kq,x53_27,rfl,HA,De,Bd,Be,Bg,Bh,Bi,Bj,Ba,Bf,HB⟩:=hcut
      cases kq with
     |zero=>exact absurd HA.out (by simp [laws_FnSigsDrain.j2])
     |succ kj27 =>
       have H:=HA.out
       clear HA
       simp only [laws_FnSigsDrain.j2] at H
       by_cases c39:x53_27=true
       rotate_left
       ·replace c39:=Bool.eq_false_iff.mpr c39
        subst c39
        have H1:(laws_FnSigsDrain.l0 kj27 (wrap64 (x6_2 + 1)) t232 t235 t238 x246000_2 x246001_2 x246002_2)=some r:=by rw [if_neg (show ¬ (false=true) by decide)] at H;exact H
        clear H
        have H:=H1
        clear H1
        have H':=Am H
        clear H
        go_wp2
        go_roundg kj27
        case measure=>have:=BV.out;have:=HK2.out;have:=De.out;omega
        case rel=>exact ⟨(wrap64 (x6_2 + 1)),(x246000_2),(x246001_2),(x246002_2),(u246000),(u246001),(u246002),(by first|rfl|(simp;done)|(simp [*];done)),H',⟨by have:=BV.out;have:=HK2.out;have:=De.out;omega⟩,⟨by (with_reducible repeat (first|apply Kd.Q_alloc|apply Kd.Q_drewN|apply Kd.Q_drew));exact Bd.out⟩,⟨by (with_reducible repeat (first|apply rA|apply rN|apply rD));exact Be.out⟩,⟨by (with_reducible repeat (first|apply rA|apply rN|apply rD));exact Bg.out⟩,⟨by (with_reducible repeat (first|apply Kd.Q_alloc|apply Kd.Q_drewN|apply Kd.Q_drew));exact Bh.out⟩,⟨by (with_reducible repeat (first|apply rA|apply rN|apply rD));exact Bi.out⟩,⟨by (with_reducible repeat (first|apply rA|apply rN|apply rD));exact Bj.out⟩,⟨by (with_reducible repeat (first|refine bN ?_ _|refine bD ?_|refine bA ?_ _));exact Ba.out⟩,⟨by (with_reducible repeat (first|refine bN ?_ _|refine bD ?_|refine bA ?_ _));exact Bf.out⟩,⟨by repeat (first|(with_reducible first|exact HB.out|apply oA|apply pN|apply o1|refine bS ?_ Bk.out|refine bS ?_ Bp.out)|exact HB.out)⟩⟩
       subst c39
       have H1:((impl_SigsNext.f kj27 x246000_2 x246001_2 x246002_2).bind fun bt261=>(if bt261.2.2.2.2.2=true then (if bt261.2.2.2.1=x6_2 then (laws_FnSigsDrain.l0 kj27 (wrap64 (x6_2 + 1)) t232 t235 t238 bt261.1 bt261.2.1 bt261.2.2.1) else (some false)) else (some false)))=some r:=by rw [if_pos rfl] at H;exact H
       clear H
       have H:=H1
       clear H1
       replace H:=oC H
       obtain ⟨⟨t261,t264,t267,t270,t271,t272⟩,A400,H⟩:=H
       replace H:(if t272=true then (if t270=x6_2 then (laws_FnSigsDrain.l0 kj27 (wrap64 (x6_2 + 1)) t232 t235 t238 t261 t264 t267) else (some false)) else (some false))=some r:=H
       have A40:=Am A400
       clear A400
       by_cases c41:t272=true
       rotate_left
       ·replace c41:=Bool.eq_false_iff.mpr c41
        subst c41
        have H1:(some false)=some r:=by rw [if_neg (show ¬ (false=true) by decide)] at H;exact H
        clear H
        have H:=H1
        clear H1
        exact absurd ((oJ H).trans hT_.out) (by decide)
       subst c41
       have H1:(if t270=x6_2 then (laws_FnSigsDrain.l0 kj27 (wrap64 (x6_2 + 1)) t232 t235 t238 t261 t264 t267) else (some false))=some r:=by rw [if_pos rfl] at H;exact H
       clear H
       have H:=H1
       clear H1
       by_cases c42:t270=x6_2
       rotate_left
       ·rw [if_neg c42] at H
        have c42b0:(t270 == x6_2)=false:=beq_eq_false_iff_ne.mpr c42
        have c42b1:(t270 != x6_2)=true:=bne_iff_ne.mpr c42
        exact absurd ((oJ H).trans hT_.out) (by decide)
       rw [if_pos c42] at H
       have c42b0:(t270 == x6_2)=true:=beq_iff_eq.mpr c42
       have c42b1:(t270 != x6_2)=false:=bne_eq_false_iff_eq.mpr c42
       clear c42
       have H':=Am H
       clear H
       have Fb:=Bs.out
       have Fc:=Bq.out
       have Dz:=cz0 Bf.out
       have DA:=cz1 Bf.out
       have DB:=cz2 Bf.out
       have DC:=bF Bf.out 0
       have DD:=bF Bf.out 1
       have DE:=bF Bf.out 2
       obtain ⟨Ao45,co45,eo45,_⟩:=Kd.Q_slice Bh.out
       subst eo45
       obtain ⟨Ao46,co46,eo46⟩:=rC Bi.out
       subst eo46
       obtain ⟨Ao47,co47,eo47⟩:=rC Bj.out
       subst eo47
       go_wp2_with (first|((with_reducible refine gC (f:=13) rfl ?_);refine goesL_ (some 56) rfl rfl Try.func13 (by kernel_rfl) rfl #[.agg #[.slice Ao45 x246000_2.length co45,.slice Ao46 x246001_2.length co46,.slice Ao47 x246002_2.length co47]] rfl (by (try simp only [lM,lC,lN]);first|done|rfl|(simp only [lD,lT];rfl)) ?_;(with_reducible refine (impl_SigsNext.calls kj27 _ _ x246000_2 _ _ x246001_2 _ _ x246002_2 t261 t264 t267 t270 t271 true _ ?side1 ?side2 ?side3 ?side4 ?side5 ?side6 A40.out).mono ?_);(case side1=>exact cL (qR Bh.out).2.2);(case side2=>exact (qR Bh.out).2.1);(case side3=>exact cL (rR Bi.out).2.2);(case side4=>exact (rR Bi.out).2.1);(case side5=>exact cL (rR Bj.out).2.2);(case side6=>exact (rR Bj.out).2.1);rintro e w48 ⟨v262,v265,v268,rfl,ho0,ho1,ho2,hb⟩;refine ⟨_,rfl,?_⟩;have n0_:=Am (qM (qJ (qJ (qK (qL Bd.out) hb) (rZ ho0)) (rZ ho1)) (fun _ h_=>h_.1));have n1_:=Am (rM (rJ (rJ (rK (rL Be.out) hb) (rZ ho0)) (rZ ho1)) (fun _ h_=>h_.1));have n2_:=Am (rX (rL Bg.out) (rZ ho2) hb);have n3_:=Am (qM (qJ (qJ (qK (qL Bh.out) hb) (rZ ho0)) (rZ ho1)) (fun _ h_=>h_.1));have n4_:=Am (rM (rJ (rJ (rK (rL Bi.out) hb) (rZ ho0)) (rZ ho1)) (fun _ h_=>h_.1));have n5_:=Am (rX (rL Bj.out) (rZ ho2) hb);have n6_:=Am (rW (rQ (rQ (rQ (rQ ho0 (qI (qL Bd.out))) (rI (rL Be.out))) (qI (qL Bh.out))) (rI (rL Bi.out))) (bZ (by repeat (first|(with_reducible first|exact HB.out|apply oA|apply pN|apply o1|refine bS ?_ Bk.out|refine bS ?_ Bp.out)|exact HB.out))));have n7_:=Am (rW (rQ (rQ (rQ (rQ ho1 (qI (qL Bd.out))) (rI (rL Be.out))) (qI (qL Bh.out))) (rI (rL Bi.out))) (bZ (by repeat (first|(with_reducible first|exact HB.out|apply oA|apply pN|apply o1|refine bS ?_ Bk.out|refine bS ?_ Bp.out)|exact HB.out))));have n8_:=Am (rW (rQ (rQ ho2 (rI (rL Bg.out))) (rI (rL Bj.out))) (bZ (by repeat (first|(with_reducible first|exact HB.out|apply oA|apply pN|apply o1|refine bS ?_ Bk.out|refine bS ?_ Bp.out)|exact HB.out))));have n9_:=Am (bX Ba.out hb);have n10_:=Am (bX Bf.out hb);have n11_:=Am (bP (by repeat (first|(with_reducible first|exact HB.out|apply oA|apply pN|apply o1|refine bS ?_ Bk.out|refine bS ?_ Bp.out)|exact HB.out)) hb);clear Bd Be Bg Bh Bi Bj Ba Bf HB;revert n0_ n1_ n2_ n3_ n4_ n5_ n6_ n7_ n8_ n9_ n10_ n11_;intro Bd Be Bg Bh Bi Bj Bv Bw Bx Ba Bf HB;(try clear hb);(try clear hb2);(try clear hk);(try clear hi);(try clear ho0);(try clear ho1);(try clear ho2))|((with_reducible refine gD (N:=7) rfl ?_);refine bI ?hg (N:=7) ?hd (cs:=#[.slice none 0 0,.slice none 0 0,.slice none 0 0]) (t:=26) ?hr ?_;(case hd=>rfl);(case hg=>rfl);(case hr=>first|(go_simp;done)|(go_simp;rfl));intro Bl hg w49 hbox hb;have n0_:=Am (Kd.Q_below (qL Bd.out) hb);have n1_:=Am (rB (rL Be.out) hb);have n2_:=Am (rB (rL Bg.out) hb);have n3_:=Am (Kd.Q_below (qL Bh.out) hb);have n4_:=Am (rB (rL Bi.out) hb);have n5_:=Am (rB (rL Bj.out) hb);have n6_:=Am (rB (rL Bv.out) hb);have n7_:=Am (rB (rL Bw.out) hb);have n8_:=Am (rB (rL Bx.out) hb);have n9_:=Am (bX Ba.out hb);have n10_:=Am (bX Bf.out hb);have n11_:=Am (bP (by repeat (first|(with_reducible first|exact HB.out|apply oA|apply pN|apply o1|refine bS ?_ Bk.out|refine bS ?_ Bp.out)|exact HB.out)) hb);have n12_:=Am (hbox);have n13_:=Am ((by rw [hg];exact (bZ (by repeat (first|(with_reducible first|exact HB.out|apply oA|apply pN|apply o1|refine bS ?_ Bk.out|refine bS ?_ Bp.out)|exact HB.out))):w.heap.size≤Bl));have n14_:=Am ((by rw [hg];exact (bZ (by repeat (first|(with_reducible first|exact HB.out|apply oA|apply pN|apply o1|refine bS ?_ Bk.out|refine bS ?_ Bp.out)|exact HB.out))):w.heap.size≤Bl));have n15_:=Am ((nL Ba.out hg));have n16_:=Am ((nG Ba.out hg));have n17_:=Am ((nL Bf.out hg));have n18_:=Am ((nG Bf.out hg));clear Bd Be Bg Bh Bi Bj Bv Bw Bx Ba Bf HB;revert n0_ n1_ n2_ n3_ n4_ n5_ n6_ n7_ n8_ n9_ n10_ n11_ n12_ n13_ n14_ n15_ n16_ n17_ n18_;intro Bd Be Bg Bh Bi Bj Bv Bw Bx Ba Bf HB Br Fd Dx BK Df BL Dg;clear hb hbox hg;obtain ⟨Ao50,co50,eo50⟩:=rC Bv.out;subst eo50;have Fe:=Df.out;have Ff:=BK.out;have Fg:=Dg.out;have Fh:=BL.out;have DF:=cz0 Br.out;have DG:=cz1 Br.out;have DH:=cz2 Br.out;have DI:=bF Br.out 0;have DJ:=bF Br.out 1;have DK:=bF Br.out 2;obtain ⟨Ao54,co54,eo54⟩:=rC Bw.out;subst eo54;obtain ⟨Ao55,co55,eo55⟩:=rC Bx.out;subst eo55;have DL:=cz0 Bf.out;have DM:=cz1 Bf.out;have DN:=cz2 Bf.out;have DO:=bF Bf.out 0;have DP:=bF Bf.out 1;have DQ:=bF Bf.out 2))
       go_roundg kj27
       case measure=>have:=BV.out;have:=HK2.out;have:=De.out;omega
       case rel=>exact ⟨(wrap64 (x6_2 + 1)),(t261),(t264),(t267),(.slice Ao50 t261.length co50),(.slice Ao54 t264.length co54),(.slice Ao55 t267.length co55),(by first|rfl|(simp;done)|(simp [*];done)),H',⟨by have:=BV.out;have:=HK2.out;have:=De.out;omega⟩,⟨by (with_reducible repeat (first|apply Kd.Q_alloc|apply Kd.Q_drewN|apply Kd.Q_drew));exact qM (Kd.Q_far (p:=⟨Bb,2,none⟩) (Kd.Q_far (p:=⟨Bb,1,none⟩) (Kd.Q_far (p:=⟨Bb,0,none⟩) (Kd.Q_far (p:=⟨Bl,2,none⟩) (Kd.Q_far (p:=⟨Bl,1,none⟩) (Kd.Q_far (p:=⟨Bl,0,none⟩) (Kd.Q_types (Kd.Q_types Bd.out Br.out (by decide)) Bf.out (by decide)) (fun _ hk=>hk.1.2) (.slice Ao50 t261.length co50)) (fun _ hk=>hk.1.2) (.slice Ao54 t264.length co54)) (fun _ hk=>hk.1.2) (.slice Ao55 t267.length co55)) (fun _ hk=>hk.2) (.slice Ao50 t261.length co50)) (fun _ hk=>hk.2) (.slice Ao54 t264.length co54)) (fun _ hk=>hk.2) (.slice Ao55 t267.length co55)) (fun _ hk=>⟨hk.1.1.1.1.1,hk.1.1.2⟩)⟩,⟨by (with_reducible repeat (first|apply rA|apply rN|apply rD));exact rM (rF (p:=⟨Bb,2,none⟩) (rF (p:=⟨Bb,1,none⟩) (rF (p:=⟨Bb,0,none⟩) (rF (p:=⟨Bl,2,none⟩) (rF (p:=⟨Bl,1,none⟩) (rF (p:=⟨Bl,0,none⟩) (rT (rT Be.out Br.out (by decide)) Bf.out (by decide)) (fun _ hk=>hk.1.2) (.slice Ao50 t261.length co50)) (fun _ hk=>hk.1.2) (.slice Ao54 t264.length co54)) (fun _ hk=>hk.1.2) (.slice Ao55 t267.length co55)) (fun _ hk=>hk.2) (.slice Ao50 t261.length co50)) (fun _ hk=>hk.2) (.slice Ao54 t264.length co54)) (fun _ hk=>hk.2) (.slice Ao55 t267.length co55)) (fun _ hk=>⟨hk.1.1.1.1.1,hk.1.1.1.2⟩)⟩,⟨by (with_reducible repeat (first|apply rA|apply rN|apply rD));exact rM (rF (p:=⟨Bb,2,none⟩) (rF (p:=⟨Bb,1,none⟩) (rF (p:=⟨Bb,0,none⟩) (rF (p:=⟨Bl,2,none⟩) (rF (p:=⟨Bl,1,none⟩) (rF (p:=⟨Bl,0,none⟩) (rT (rT Bg.out Br.out (by decide)) Bf.out (by decide)) (fun _ hk=>hk.1.2) (.slice Ao50 t261.length co50)) (fun _ hk=>hk.1.2) (.slice Ao54 t264.length co54)) (fun _ hk=>hk.1.2) (.slice Ao55 t267.length co55)) (fun _ hk=>hk.2) (.slice Ao50 t261.length co50)) (fun _ hk=>hk.2) (.slice Ao54 t264.length co54)) (fun _ hk=>hk.2) (.slice Ao55 t267.length co55)) (fun _ hk=>trivial)⟩,⟨Kd.Q_of_R (by (with_reducible repeat (first|apply rA|apply rN|apply rD));exact rM (rF (p:=⟨Bb,2,none⟩) (rF (p:=⟨Bb,1,none⟩) (rF (p:=⟨Bb,0,none⟩) (rF (p:=⟨Bl,2,none⟩) (rF (p:=⟨Bl,1,none⟩) (rF (p:=⟨Bl,0,none⟩) (rT (rT Bv.out Br.out (by decide)) Bf.out (by decide)) (fun _ hk=>hk.1.2) (.slice Ao50 t261.length co50)) (fun _ hk=>hk.1.2) (.slice Ao54 t264.length co54)) (fun _ hk=>hk.1.2) (.slice Ao55 t267.length co55)) (fun _ hk=>hk.2) (.slice Ao50 t261.length co50)) (fun _ hk=>hk.2) (.slice Ao54 t264.length co54)) (fun _ hk=>hk.2) (.slice Ao55 t267.length co55)) (fun _ hk=>⟨hk.1.1.1.1.2,hk.1.1.1.1.1.1⟩))⟩,⟨by (with_reducible repeat (first|apply rA|apply rN|apply rD));exact rM (rF (p:=⟨Bb,2,none⟩) (rF (p:=⟨Bb,1,none⟩) (rF (p:=⟨Bb,0,none⟩) (rF (p:=⟨Bl,2,none⟩) (rF (p:=⟨Bl,1,none⟩) (rF (p:=⟨Bl,0,none⟩) (rT (rT Bw.out Br.out (by decide)) Bf.out (by decide)) (fun _ hk=>hk.1.2) (.slice Ao50 t261.length co50)) (fun _ hk=>hk.1.2) (.slice Ao54 t264.length co54)) (fun _ hk=>hk.1.2) (.slice Ao55 t267.length co55)) (fun _ hk=>hk.2) (.slice Ao50 t261.length co50)) (fun _ hk=>hk.2) (.slice Ao54 t264.length co54)) (fun _ hk=>hk.2) (.slice Ao55 t267.length co55)) (fun _ hk=>⟨hk.1.1.1.1.1.2,hk.1.1.1.1.1.1⟩)⟩,⟨by (with_reducible repeat (first|apply rA|apply rN|apply rD));exact rM (rF (p:=⟨Bb,2,none⟩) (rF (p:=⟨Bb,1,none⟩) (rF (p:=⟨Bb,0,none⟩) (rF (p:=⟨Bl,2,none⟩) (rF (p:=⟨Bl,1,none⟩) (rF (p:=⟨Bl,0,none⟩) (rT (rT Bx.out Br.out (by decide)) Bf.out (by decide)) (fun _ hk=>hk.1.2) (.slice Ao50 t261.length co50)) (fun _ hk=>hk.1.2) (.slice Ao54 t264.length co54)) (fun _ hk=>hk.1.2) (.slice Ao55 t267.length co55)) (fun _ hk=>hk.2) (.slice Ao50 t261.length co50)) (fun _ hk=>hk.2) (.slice Ao54 t264.length co54)) (fun _ hk=>hk.2) (.slice Ao55 t267.length co55)) (fun _ hk=>trivial)⟩,⟨by (with_reducible repeat (first|refine bN ?_ _|refine bD ?_|refine bA ?_ _|refine bE ?_ Bq.out _|refine bE ?_ BK.out _));exact Ba.out⟩,⟨by (with_reducible repeat (first|refine bN ?_ _|refine bD ?_|refine bA ?_ _));refine bT (cs:=#[.slice Ao50 t261.length co50,.slice Ao54 t264.length co54,.slice Ao47 x246002_2.length co47]) ?_ 2 _ rfl;(with_reducible repeat (first|refine bN ?_ _|refine bD ?_|refine bA ?_ _));refine bT (cs:=#[.slice Ao50 t261.length co50,.slice Ao46 x246001_2.length co46,.slice Ao47 x246002_2.length co47]) ?_ 1 _ rfl;(with_reducible repeat (first|refine bN ?_ _|refine bD ?_|refine bA ?_ _));refine bT (cs:=#[.slice Ao45 x246000_2.length co45,.slice Ao46 x246001_2.length co46,.slice Ao47 x246002_2.length co47]) ?_ 0 _ rfl;(with_reducible repeat (first|refine bN ?_ _|refine bD ?_|refine bA ?_ _|refine bE ?_ BL.out _));exact Bf.out⟩,⟨by repeat (first|(with_reducible first|exact HB.out|apply oA|apply pN|apply o1|refine bS ?_ Bk.out|refine bS ?_ Bp.out|refine bS ?_ Dx.out)|exact HB.out)⟩⟩
/-- THE ONE PURE STATEMENT of laws_FnSigsDrain: yours. -/
def laws_FnSigsDrain.Pure:Prop:=∀ (l0:List Int),l0.length≤maxLen → l0.length * 1≤140737488351232 → (∀ x ∈ l0,(Lit.int .u8 x).wf=true) → ∃ k,laws_FnSigsDrain.f k l0=some true
theorem laws_FnSigsDrain.walk (P:laws_FnSigsDrain.Pure) (a0:Option Addr) (len0 cap0:Nat) (z0:List Int) (w:World) (w0:(a0=none∧len0=0∧cap0=0∧z0=[])∨∃ x,a0=some x∧len0≤cap0∧cap0≤maxLen∧z0.length=cap0∧(∀ i,i<z0.length → w.cell? (x.add i)=some (.int .u8 (z0.getD i 0)))∧∀ n ∈ z0,(Lit.int .u8 n).wf=true) (y0:len0 * 1≤140737488351232) :
  Calls Try.prog 4 #[.slice a0 len0 cap0] w fun e w'=>e=.returned (.bool true)∧Below w.heap.size w w':=by
 obtain ⟨l0,rfl,hr0,hm0,hw0,hc0⟩:=ReadsInt.ofRowC w0
 obtain ⟨k,h⟩:=P l0 hm0 y0 hw0
 refine (laws_FnSigsDrain.calls k _ _ l0 true w (Kd.C_of_reads (d:=(0:Int)) (h1:=fun _=>rfl) hr0) hc0 h ⟨rfl⟩).mono ?_
 rintro e w' ⟨rfl,hd⟩
 exact ⟨rfl,hd⟩

end Go.Proofs.Ytiifanjjohophaa.PFnSigsDrain
