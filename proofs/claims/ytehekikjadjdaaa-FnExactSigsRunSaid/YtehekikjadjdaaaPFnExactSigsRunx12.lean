/- Proved here, without a condition beyond those that each theorem states: what the Go functions named below do is what the plain functions of the same names say. Written by xprint.py, a program of this session. -/
import Derived.Test.YtehekikjadjdaaaPFnExactSigsRunx0
import Derived.Test.YtehekikjadjdaaaPFnExactSigsRunx1
import Derived.Test.YtehekikjadjdaaaPFnExactSigsRunx2
import Derived.Test.YtehekikjadjdaaaPFnExactSigsRunx3
import Derived.Test.YtehekikjadjdaaaPFnExactSigsRunx4
import Derived.Test.YtehekikjadjdaaaPFnExactSigsRunx5
import Derived.Test.YtehekikjadjdaaaPFnExactSigsRunx8
import Derived.Test.YtehekikjadjdaaaPFnExactSigsRunx11
namespace Go.Proofs.Ytehekikjadjdaaa.PFnExactSigsRun
open Go.RowKit Go.Proofs.YtehekikjadjdaaaW.PrintWords Go.Proofs.YtehekikjadjdaaaW.PrintLast Go.Proofs.YtehekikjadjdaaaW.PrintMore
attribute [local go_sem] max2_int min2_int max_two min_two max_three min_three max_four min_four   -- for this text's walks alone
set_option linter.unusedVariables false
set_option linter.unusedSimpArgs false

attribute [local go_sem ↓] isSome_setCell_
/-! ### laws_FnExactSigsRun: function 6 -/
def laws_FnExactSigsRun.j0 : Nat → Bool → List Bool → List Bool → List Int → List Bool → List Bool → List Int → List Bool → List Bool → List Int → Option (Bool)
|0, _, _, _, _, _, _, _, _, _, _ => none
|k + 1, x42, x241000, x241001, x241002, x261000, x261001, x261002, x281000, x281001, x281002 => if x42 = true then (some false) else ((laws_markSigs.f k x281000 x281001 x281002 1).bind fun bt297 => ((laws_heldSigs.f k bt297.2.1 bt297.2.2.1 bt297.2.2.2 1).bind fun t301 => (if t301 < 0 then (some false) else (if t301 = bt297.1 then ((laws_toSigs.f k x241000 x241001 x241002).bind fun bt302 => ((impl_SigsRun.f k bt302.1 bt302.2.1 bt302.2.2).bind fun bt311 => ((laws_eqSigs.f k bt311.1 bt311.2.1 bt311.2.2 x261000 x261001 x261002).bind fun t321 => (if t321 = true then ((laws_heldSigs.f k bt297.2.1 bt297.2.2.1 bt297.2.2.2 1).bind fun t322 => (if t322 < 0 then (some false) else (if t322 = bt297.1 then (some true) else (some false)))) else (some false))))) else (some false)))))
def laws_FnExactSigsRun.f (k : Nat) (l0_0 : List Bool) (l0_1 : List Bool) (l0_2 : List Int) : Option (Bool) := (laws_szSigs.f l0_0 l0_1 l0_2 1048576).bind fun t241 => (if t241 < 0 then (some true) else ((laws_toSigs.f k l0_0 l0_1 l0_2).bind fun bt242 => ((spec_SigsRun.f k bt242.1 bt242.2.1 bt242.2.2).bind fun bt251 => ((laws_toSigs.f k l0_0 l0_1 l0_2).bind fun bt261 => ((impl_SigsRun.f k bt261.1 bt261.2.1 bt261.2.2).bind fun bt271 => ((laws_eqSigs.f k bt271.1 bt271.2.1 bt271.2.2 bt251.1 bt251.2.1 bt251.2.2).bind fun t281 => (if t281 = true then ((laws_toSigs.f k l0_0 l0_1 l0_2).bind fun bt282 => ((laws_eqSigs.f k bt261.1 bt261.2.1 bt261.2.2 bt282.1 bt282.2.1 bt282.2.2).bind fun t291 => (if t291 = true then ((laws_markSigs.f k bt261.1 bt261.2.1 bt261.2.2 1).bind fun bt292 => (if bt292.1 < 0 then (laws_FnExactSigsRun.j0 k true l0_0 l0_1 l0_2 bt251.1 bt251.2.1 bt251.2.2 bt271.1 bt271.2.1 bt271.2.2) else ((laws_eqSigs.f k bt271.1 bt271.2.1 bt271.2.2 bt251.1 bt251.2.1 bt251.2.2).bind fun t296 => (laws_FnExactSigsRun.j0 k (!t296) l0_0 l0_1 l0_2 bt251.1 bt251.2.1 bt251.2.2 bt271.1 bt271.2.1 bt271.2.2)))) else (some false)))) else (some false))))))))
theorem laws_FnExactSigsRun.mono_l : ∀ k, (∀ y0 y1 y2 y3 y4 y5 y6 y7 y8 y9, LeO (laws_FnExactSigsRun.j0 k y0 y1 y2 y3 y4 y5 y6 y7 y8 y9) (laws_FnExactSigsRun.j0 (k + 1) y0 y1 y2 y3 y4 y5 y6 y7 y8 y9))
|0 => fun _ _ _ _ _ _ _ _ _ _ r h => by simp [laws_FnExactSigsRun.j0] at h
|k + 1 => by
  have ih0 := laws_FnExactSigsRun.mono_l k
  ·intro y0 y1 y2 y3 y4 y5 y6 y7 y8 y9
   unfold laws_FnExactSigsRun.j0
   repeat' first
  |(with_reducible exact ih0 _ _ _ _ _ _ _ _ _ _)
  |(with_reducible exact impl_SigsRun.mono _ _ _ _)
  |(with_reducible exact laws_eqSigs.mono _ _ _ _ _ _ _)
  |(with_reducible exact laws_heldSigs.mono _ _ _ _ _)
  |(with_reducible exact laws_markSigs.mono _ _ _ _ _)
  |(with_reducible exact laws_toSigs.mono _ _ _ _)
  |(with_reducible exact spec_SigsRun.mono _ _ _ _)
  |(with_reducible exact LeO.refl _)
  |(with_reducible exact LeO.none _)
  |(with_reducible refine LeO.ite ?_ ?_)
  |(with_reducible refine LeO.bind ?_ (fun _ => ?_))
  |exact ih0 _ _ _ _ _ _ _ _ _ _
  |exact impl_SigsRun.mono _ _ _ _
  |exact laws_eqSigs.mono _ _ _ _ _ _ _
  |exact laws_heldSigs.mono _ _ _ _ _
  |exact laws_markSigs.mono _ _ _ _ _
  |exact laws_toSigs.mono _ _ _ _
  |exact spec_SigsRun.mono _ _ _ _
  |exact LeO.none _
  |refine LeO.ite ?_ ?_
  |refine LeO.bind ?_ (fun _ => ?_)
theorem laws_FnExactSigsRun.mono : ∀ a0 a1 a2 k, LeO (laws_FnExactSigsRun.f k a0 a1 a2) (laws_FnExactSigsRun.f (k + 1) a0 a1 a2) := by
 intro a0 a1 a2 k
 have ih0 := laws_FnExactSigsRun.mono_l k
 unfold laws_FnExactSigsRun.f
 repeat' first
  |(with_reducible exact ih0 _ _ _ _ _ _ _ _ _ _)
  |(with_reducible exact impl_SigsRun.mono _ _ _ _)
  |(with_reducible exact laws_eqSigs.mono _ _ _ _ _ _ _)
  |(with_reducible exact laws_heldSigs.mono _ _ _ _ _)
  |(with_reducible exact laws_markSigs.mono _ _ _ _ _)
  |(with_reducible exact laws_toSigs.mono _ _ _ _)
  |(with_reducible exact spec_SigsRun.mono _ _ _ _)
  |(with_reducible exact LeO.refl _)
  |(with_reducible exact LeO.none _)
  |(with_reducible refine LeO.ite ?_ ?_)
  |(with_reducible refine LeO.bind ?_ (fun _ => ?_))
  |exact ih0 _ _ _ _ _ _ _ _ _ _
  |exact impl_SigsRun.mono _ _ _ _
  |exact laws_eqSigs.mono _ _ _ _ _ _ _
  |exact laws_heldSigs.mono _ _ _ _ _
  |exact laws_markSigs.mono _ _ _ _ _
  |exact laws_toSigs.mono _ _ _ _
  |exact spec_SigsRun.mono _ _ _ _
  |exact LeO.none _
  |refine LeO.ite ?_ ?_
  |refine LeO.bind ?_ (fun _ => ?_)
set_option maxHeartbeats 2000000 in
set_option maxRecDepth 100000 in
theorem laws_FnExactSigsRun.calls (k:Nat) (A0_0:Option Addr) (c0_0:Nat) (l0_0:List Bool) (A0_1:Option Addr) (c0_1:Nat) (l0_1:List Bool) (A0_2:Option Addr) (c0_2:Nat) (l0_2:List Int) (r:Bool) (w:World) (hr0_0:Kd.C Kd.bool w A0_0 l0_0.length l0_0) (hc0_0:l0_0.length≤c0_0) (hr0_1:Kd.C Kd.bool w A0_1 l0_1.length l0_1) (hc0_1:l0_1.length≤c0_1) (hr0_2:Kd.C (Kd.int .i64) w A0_2 l0_2.length l0_2) (hc0_2:l0_2.length≤c0_2) (h:laws_FnExactSigsRun.f k l0_0 l0_1 l0_2=some r) (hT_:Aside0 (r=true)) :
  Calls Try.prog 6 #[.agg #[.slice A0_0 l0_0.length c0_0,.slice A0_1 l0_1.length c0_1,.slice A0_2 l0_2.length c0_2]] w fun e w'=>e=.returned (.bool r)∧Below w.heap.size w w':=by
 have hu25:=Try.underlying25
 have hu27:=Try.underlying27
 have HR0_0:=Am hr0_0
 have HC0_0:=Am hc0_0
 clear hr0_0 hc0_0
 have HR0_1:=Am hr0_1
 have HC0_1:=Am hc0_1
 clear hr0_1 hc0_1
 have HR0_2:=Am hr0_2
 have HC0_2:=Am hc0_2
 clear hr0_2 hc0_2
 have HB:=Am (bJ w.heap.size w)
 have H:((laws_szSigs.f l0_0 l0_1 l0_2 1048576).bind fun t241=>(if t241<0 then (some true) else ((laws_toSigs.f k l0_0 l0_1 l0_2).bind fun bt242=>((spec_SigsRun.f k bt242.1 bt242.2.1 bt242.2.2).bind fun bt251=>((laws_toSigs.f k l0_0 l0_1 l0_2).bind fun bt261=>((impl_SigsRun.f k bt261.1 bt261.2.1 bt261.2.2).bind fun bt271=>((laws_eqSigs.f k bt271.1 bt271.2.1 bt271.2.2 bt251.1 bt251.2.1 bt251.2.2).bind fun t281=>(if t281=true then ((laws_toSigs.f k l0_0 l0_1 l0_2).bind fun bt282=>((laws_eqSigs.f k bt261.1 bt261.2.1 bt261.2.2 bt282.1 bt282.2.1 bt282.2.2).bind fun t291=>(if t291=true then ((laws_markSigs.f k bt261.1 bt261.2.1 bt261.2.2 1).bind fun bt292=>(if bt292.1<0 then (laws_FnExactSigsRun.j0 k true l0_0 l0_1 l0_2 bt251.1 bt251.2.1 bt251.2.2 bt271.1 bt271.2.1 bt271.2.2) else ((laws_eqSigs.f k bt271.1 bt271.2.1 bt271.2.2 bt251.1 bt251.2.1 bt251.2.2).bind fun t296=>(laws_FnExactSigsRun.j0 k (!t296) l0_0 l0_1 l0_2 bt251.1 bt251.2.1 bt251.2.2 bt271.1 bt271.2.1 bt271.2.2)))) else (some false)))) else (some false)))))))))=some r:=h
 clear h
 replace H:=oC H
 obtain ⟨t241,A20,H⟩:=H
 replace H:(if t241<0 then (some true) else ((laws_toSigs.f k l0_0 l0_1 l0_2).bind fun bt242=>((spec_SigsRun.f k bt242.1 bt242.2.1 bt242.2.2).bind fun bt251=>((laws_toSigs.f k l0_0 l0_1 l0_2).bind fun bt261=>((impl_SigsRun.f k bt261.1 bt261.2.1 bt261.2.2).bind fun bt271=>((laws_eqSigs.f k bt271.1 bt271.2.1 bt271.2.2 bt251.1 bt251.2.1 bt251.2.2).bind fun t281=>(if t281=true then ((laws_toSigs.f k l0_0 l0_1 l0_2).bind fun bt282=>((laws_eqSigs.f k bt261.1 bt261.2.1 bt261.2.2 bt282.1 bt282.2.1 bt282.2.2).bind fun t291=>(if t291=true then ((laws_markSigs.f k bt261.1 bt261.2.1 bt261.2.2 1).bind fun bt292=>(if bt292.1<0 then (laws_FnExactSigsRun.j0 k true l0_0 l0_1 l0_2 bt251.1 bt251.2.1 bt251.2.2 bt271.1 bt271.2.1 bt271.2.2) else ((laws_eqSigs.f k bt271.1 bt271.2.1 bt271.2.2 bt251.1 bt251.2.1 bt251.2.2).bind fun t296=>(laws_FnExactSigsRun.j0 k (!t296) l0_0 l0_1 l0_2 bt251.1 bt251.2.1 bt251.2.2 bt271.1 bt271.2.1 bt271.2.2)))) else (some false)))) else (some false))))))))=some r:=H
 have A2:=Am A20
 clear A20
 by_cases c3:t241<0
 ·rw [if_pos c3] at H
  have c3b0:decide (t241<0)=true:=dT c3
  clear c3
  obtain rfl:=oJ H
  go_enter Try.func6,Try.ntmps6
  go_wp2_with (first|((with_reducible refine gD (N:=1) rfl ?_);refine bI ?hg (N:=1) ?hd (cs:=#[.slice A0_0 l0_0.length c0_0,.slice A0_1 l0_1.length c0_1,.slice A0_2 l0_2.length c0_2]) (t:=25) ?hr ?_;(case hd=>rfl);(case hg=>rfl);(case hr=>first|(go_simp;done)|(go_simp;rfl));intro Bl hg w4 hbox hb;have n0_:=Am (bP (by repeat (first|(with_reducible first|exact HB.out|apply oA|apply pN|apply o1)|exact HB.out)) hb);have n1_:=Am (hbox);have n2_:=Am ((by rw [hg];exact (bZ (by repeat (first|(with_reducible first|exact HB.out|apply oA|apply pN|apply o1)|exact HB.out))):w.heap.size≤Bl));have n3_:=Am ((by rw [hg];exact (bZ (by repeat (first|(with_reducible first|exact HB.out|apply oA|apply pN|apply o1)|exact HB.out))):w.heap.size≤Bl));clear HB;revert n0_ n1_ n2_ n3_;intro HB Ba Fh Bm;clear hb hbox hg;have Fb:=cz0 Ba.out;have Fc:=cz1 Ba.out;have Fd:=cz2 Ba.out;have Fe:=bF Ba.out 0;have Ff:=bF Ba.out 1;have Fg:=bF Ba.out 2)|((with_reducible refine gC (f:=13) rfl ?_);refine goesL_ (some 13) rfl rfl Try.func13 (by kernel_rfl) rfl #[.agg #[.slice A0_0 l0_0.length c0_0,.slice A0_1 l0_1.length c0_1,.slice A0_2 l0_2.length c0_2],.int .i64 1048576] rfl (by (try simp only [lM,lC,lN]);first|done|rfl|(simp only [lD,lT];rfl)) ?_;(with_reducible refine (laws_szSigs.calls _ _ l0_0 _ _ l0_1 _ _ l0_2 1048576 t241 _ ?side1 ?side2 ?side3 ?side4 ?side5 ?side6 A2.out).mono ?_);(case side1=>exact cL (cB HR0_0.out HB.out));(case side2=>exact HC0_0.out);(case side3=>exact cL (cB HR0_1.out HB.out));(case side4=>exact HC0_1.out);(case side5=>exact cL (cB HR0_2.out HB.out));(case side6=>exact HC0_2.out);rintro e w6 ⟨rfl,hb⟩;refine ⟨_,rfl,?_⟩;have n0_:=Am (bX Ba.out hb);have n1_:=Am (bP (by repeat (first|(with_reducible first|exact HB.out|apply oA|apply pN|apply o1|refine bS ?_ Bm.out)|exact HB.out)) hb);clear Ba HB;revert n0_ n1_;intro Ba HB;(try clear hb);(try clear hb2);(try clear hk);(try clear hi)))
  go_ret
  exact ⟨by first|rfl|(simp [errW_none,errW_some] <;> rfl)|(simp [*,errW_none,errW_some] <;> rfl),by repeat (first|(with_reducible first|exact HB.out|apply oA|apply pN|apply o1|refine bS ?_ Bm.out)|exact HB.out)⟩
 rw [if_neg c3] at H
 have c3b0:decide (t241<0)=false:=dF c3
 clear c3
 replace H:=oC H
 obtain ⟨⟨t242,t245,t248⟩,A70,H⟩:=H
 replace H:((spec_SigsRun.f k t242 t245 t248).bind fun bt251=>((laws_toSigs.f k l0_0 l0_1 l0_2).bind fun bt261=>((impl_SigsRun.f k bt261.1 bt261.2.1 bt261.2.2).bind fun bt271=>((laws_eqSigs.f k bt271.1 bt271.2.1 bt271.2.2 bt251.1 bt251.2.1 bt251.2.2).bind fun t281=>(if t281=true then ((laws_toSigs.f k l0_0 l0_1 l0_2).bind fun bt282=>((laws_eqSigs.f k bt261.1 bt261.2.1 bt261.2.2 bt282.1 bt282.2.1 bt282.2.2).bind fun t291=>(if t291=true then ((laws_markSigs.f k bt261.1 bt261.2.1 bt261.2.2 1).bind fun bt292=>(if bt292.1<0 then (laws_FnExactSigsRun.j0 k true l0_0 l0_1 l0_2 bt251.1 bt251.2.1 bt251.2.2 bt271.1 bt271.2.1 bt271.2.2) else ((laws_eqSigs.f k bt271.1 bt271.2.1 bt271.2.2 bt251.1 bt251.2.1 bt251.2.2).bind fun t296=>(laws_FnExactSigsRun.j0 k (!t296) l0_0 l0_1 l0_2 bt251.1 bt251.2.1 bt251.2.2 bt271.1 bt271.2.1 bt271.2.2)))) else (some false)))) else (some false))))))=some r:=H
 have A7:=Am A70
 clear A70
 replace H:=oC H
 obtain ⟨⟨t251,t254,t257⟩,A80,H⟩:=H
 replace H:((laws_toSigs.f k l0_0 l0_1 l0_2).bind fun bt261=>((impl_SigsRun.f k bt261.1 bt261.2.1 bt261.2.2).bind fun bt271=>((laws_eqSigs.f k bt271.1 bt271.2.1 bt271.2.2 t251 t254 t257).bind fun t281=>(if t281=true then ((laws_toSigs.f k l0_0 l0_1 l0_2).bind fun bt282=>((laws_eqSigs.f k bt261.1 bt261.2.1 bt261.2.2 bt282.1 bt282.2.1 bt282.2.2).bind fun t291=>(if t291=true then ((laws_markSigs.f k bt261.1 bt261.2.1 bt261.2.2 1).bind fun bt292=>(if bt292.1<0 then (laws_FnExactSigsRun.j0 k true l0_0 l0_1 l0_2 t251 t254 t257 bt271.1 bt271.2.1 bt271.2.2) else ((laws_eqSigs.f k bt271.1 bt271.2.1 bt271.2.2 t251 t254 t257).bind fun t296=>(laws_FnExactSigsRun.j0 k (!t296) l0_0 l0_1 l0_2 t251 t254 t257 bt271.1 bt271.2.1 bt271.2.2)))) else (some false)))) else (some false)))))=some r:=H
 have A8:=Am A80
 clear A80
 replace H:=oC H
 obtain ⟨⟨t261,t264,t267⟩,A90,H⟩:=H
 replace H:((impl_SigsRun.f k t261 t264 t267).bind fun bt271=>((laws_eqSigs.f k bt271.1 bt271.2.1 bt271.2.2 t251 t254 t257).bind fun t281=>(if t281=true then ((laws_toSigs.f k l0_0 l0_1 l0_2).bind fun bt282=>((laws_eqSigs.f k t261 t264 t267 bt282.1 bt282.2.1 bt282.2.2).bind fun t291=>(if t291=true then ((laws_markSigs.f k t261 t264 t267 1).bind fun bt292=>(if bt292.1<0 then (laws_FnExactSigsRun.j0 k true l0_0 l0_1 l0_2 t251 t254 t257 bt271.1 bt271.2.1 bt271.2.2) else ((laws_eqSigs.f k bt271.1 bt271.2.1 bt271.2.2 t251 t254 t257).bind fun t296=>(laws_FnExactSigsRun.j0 k (!t296) l0_0 l0_1 l0_2 t251 t254 t257 bt271.1 bt271.2.1 bt271.2.2)))) else (some false)))) else (some false))))=some r:=H
 have A9:=Am A90
 clear A90
 replace H:=oC H
 obtain ⟨⟨t271,t274,t277⟩,A100,H⟩:=H
 replace H:((laws_eqSigs.f k t271 t274 t277 t251 t254 t257).bind fun t281=>(if t281=true then ((laws_toSigs.f k l0_0 l0_1 l0_2).bind fun bt282=>((laws_eqSigs.f k t261 t264 t267 bt282.1 bt282.2.1 bt282.2.2).bind fun t291=>(if t291=true then ((laws_markSigs.f k t261 t264 t267 1).bind fun bt292=>(if bt292.1<0 then (laws_FnExactSigsRun.j0 k true l0_0 l0_1 l0_2 t251 t254 t257 t271 t274 t277) else ((laws_eqSigs.f k t271 t274 t277 t251 t254 t257).bind fun t296=>(laws_FnExactSigsRun.j0 k (!t296) l0_0 l0_1 l0_2 t251 t254 t257 t271 t274 t277)))) else (some false)))) else (some false)))=some r:=H
 have A10:=Am A100
 clear A100
 replace H:=oC H
 obtain ⟨t281,A110,H⟩:=H
 replace H:(if t281=true then ((laws_toSigs.f k l0_0 l0_1 l0_2).bind fun bt282=>((laws_eqSigs.f k t261 t264 t267 bt282.1 bt282.2.1 bt282.2.2).bind fun t291=>(if t291=true then ((laws_markSigs.f k t261 t264 t267 1).bind fun bt292=>(if bt292.1<0 then (laws_FnExactSigsRun.j0 k true l0_0 l0_1 l0_2 t251 t254 t257 t271 t274 t277) else ((laws_eqSigs.f k t271 t274 t277 t251 t254 t257).bind fun t296=>(laws_FnExactSigsRun.j0 k (!t296) l0_0 l0_1 l0_2 t251 t254 t257 t271 t274 t277)))) else (some false)))) else (some false))=some r:=H
 have A11:=Am A110
 clear A110
 by_cases c12:t281=true
 rotate_left
 ·replace c12:=Bool.eq_false_iff.mpr c12
  subst c12
  have H1:(some false)=some r:=by rw [if_neg (show ¬ (false=true) by decide)] at H;exact H
  clear H
  have H:=H1
  clear H1
  exact absurd ((oJ H).trans hT_.out) (by decide)

 subst c12
 have H1:((laws_toSigs.f k l0_0 l0_1 l0_2).bind fun bt282=>((laws_eqSigs.f k t261 t264 t267 bt282.1 bt282.2.1 bt282.2.2).bind fun t291=>(if t291=true then ((laws_markSigs.f k t261 t264 t267 1).bind fun bt292=>(if bt292.1<0 then (laws_FnExactSigsRun.j0 k true l0_0 l0_1 l0_2 t251 t254 t257 t271 t274 t277) else ((laws_eqSigs.f k t271 t274 t277 t251 t254 t257).bind fun t296=>(laws_FnExactSigsRun.j0 k (!t296) l0_0 l0_1 l0_2 t251 t254 t257 t271 t274 t277)))) else (some false))))=some r:=by rw [if_pos rfl] at H;exact H
 clear H
 have H:=H1
 clear H1
 replace H:=oC H
 obtain ⟨⟨t282,t285,t288⟩,A130,H⟩:=H
 replace H:((laws_eqSigs.f k t261 t264 t267 t282 t285 t288).bind fun t291=>(if t291=true then ((laws_markSigs.f k t261 t264 t267 1).bind fun bt292=>(if bt292.1<0 then (laws_FnExactSigsRun.j0 k true l0_0 l0_1 l0_2 t251 t254 t257 t271 t274 t277) else ((laws_eqSigs.f k t271 t274 t277 t251 t254 t257).bind fun t296=>(laws_FnExactSigsRun.j0 k (!t296) l0_0 l0_1 l0_2 t251 t254 t257 t271 t274 t277)))) else (some false)))=some r:=H
 have A13:=Am A130
 clear A130
 replace H:=oC H
 obtain ⟨t291,A140,H⟩:=H
 replace H:(if t291=true then ((laws_markSigs.f k t261 t264 t267 1).bind fun bt292=>(if bt292.1<0 then (laws_FnExactSigsRun.j0 k true l0_0 l0_1 l0_2 t251 t254 t257 t271 t274 t277) else ((laws_eqSigs.f k t271 t274 t277 t251 t254 t257).bind fun t296=>(laws_FnExactSigsRun.j0 k (!t296) l0_0 l0_1 l0_2 t251 t254 t257 t271 t274 t277)))) else (some false))=some r:=H
 have A14:=Am A140
 clear A140
 by_cases c15:t291=true
 rotate_left
 ·replace c15:=Bool.eq_false_iff.mpr c15
  subst c15
  have H1:(some false)=some r:=by rw [if_neg (show ¬ (false=true) by decide)] at H;exact H
  clear H
  have H:=H1
  clear H1
  exact absurd ((oJ H).trans hT_.out) (by decide)
 subst c15
 have H1:((laws_markSigs.f k t261 t264 t267 1).bind fun bt292=>(if bt292.1<0 then (laws_FnExactSigsRun.j0 k true l0_0 l0_1 l0_2 t251 t254 t257 t271 t274 t277) else ((laws_eqSigs.f k t271 t274 t277 t251 t254 t257).bind fun t296=>(laws_FnExactSigsRun.j0 k (!t296) l0_0 l0_1 l0_2 t251 t254 t257 t271 t274 t277))))=some r:=by rw [if_pos rfl] at H;exact H
 clear H
 have H:=H1
 clear H1
 replace H:=oC H
 obtain ⟨⟨t292,t293,t294,t295⟩,A160,H⟩:=H
 replace H:(if t292<0 then (laws_FnExactSigsRun.j0 k true l0_0 l0_1 l0_2 t251 t254 t257 t271 t274 t277) else ((laws_eqSigs.f k t271 t274 t277 t251 t254 t257).bind fun t296=>(laws_FnExactSigsRun.j0 k (!t296) l0_0 l0_1 l0_2 t251 t254 t257 t271 t274 t277)))=some r:=H
 have A16:=Am A160
 clear A160
 have HC17:=Am H
 clear H
 go_enter Try.func6,Try.ntmps6
 try go_wp2_with (first|((with_reducible refine gD (N:=1) rfl ?_);refine bI ?hg (N:=1) ?hd (cs:=#[.slice A0_0 l0_0.length c0_0,.slice A0_1 l0_1.length c0_1,.slice A0_2 l0_2.length c0_2]) (t:=25) ?hr ?_;(case hd=>rfl);(case hg=>rfl);(case hr=>first|(go_simp;done)|(go_simp;rfl));intro Bl hg w18 hbox hb;have n0_:=Am (bP (by repeat (first|(with_reducible first|exact HB.out|apply oA|apply pN|apply o1)|exact HB.out)) hb);have n1_:=Am (hbox);have n2_:=Am ((by rw [hg];exact (bZ (by repeat (first|(with_reducible first|exact HB.out|apply oA|apply pN|apply o1)|exact HB.out))):w.heap.size≤Bl));have n3_:=Am ((by rw [hg];exact (bZ (by repeat (first|(with_reducible first|exact HB.out|apply oA|apply pN|apply o1)|exact HB.out))):w.heap.size≤Bl));clear HB;revert n0_ n1_ n2_ n3_;intro HB Ba Fh Bm;clear hb hbox hg;have Dd:=cz0 Ba.out;have De:=cz1 Ba.out;have Df:=cz2 Ba.out;have Dg:=bF Ba.out 0;have Dh:=bF Ba.out 1;have Di:=bF Ba.out 2)|((with_reducible refine gC (f:=13) rfl ?_);refine goesL_ (some 13) rfl rfl Try.func13 (by kernel_rfl) rfl #[.agg #[.slice A0_0 l0_0.length c0_0,.slice A0_1 l0_1.length c0_1,.slice A0_2 l0_2.length c0_2],.int .i64 1048576] rfl (by (try simp only [lM,lC,lN]);first|done|rfl|(simp only [lD,lT];rfl)) ?_;(with_reducible refine (laws_szSigs.calls _ _ l0_0 _ _ l0_1 _ _ l0_2 1048576 t241 _ ?side1 ?side2 ?side3 ?side4 ?side5 ?side6 A2.out).mono ?_);(case side1=>exact cL (cB HR0_0.out HB.out));(case side2=>exact HC0_0.out);(case side3=>exact cL (cB HR0_1.out HB.out));(case side4=>exact HC0_1.out);(case side5=>exact cL (cB HR0_2.out HB.out));(case side6=>exact HC0_2.out);rintro e w20 ⟨rfl,hb⟩;refine ⟨_,rfl,?_⟩;have n0_:=Am (bX Ba.out hb);have n1_:=Am (bP (by repeat (first|(with_reducible first|exact HB.out|apply oA|apply pN|apply o1|refine bS ?_ Bm.out)|exact HB.out)) hb);clear Ba HB;revert n0_ n1_;intro Ba HB;(try clear hb);(try clear hb2);(try clear hk);(try clear hi);have Dj:=cz0 Ba.out;have Dk:=cz1 Ba.out;have Dl:=cz2 Ba.out;have Dm:=bF Ba.out 0;have Dn:=bF Ba.out 1;have Do:=bF Ba.out 2)|((with_reducible refine gC (f:=15) rfl ?_);refine goesL_ (some 17) rfl rfl Try.func15 (by kernel_rfl) rfl #[.agg #[.slice A0_0 l0_0.length c0_0,.slice A0_1 l0_1.length c0_1,.slice A0_2 l0_2.length c0_2]] rfl (by (try simp only [lM,lC,lN]);first|done|rfl|(simp only [lD,lT];rfl)) ?_;(with_reducible refine (laws_toSigs.calls k _ _ l0_0 _ _ l0_1 _ _ l0_2 t242 t245 t248 _ ?side1 ?side2 ?side3 ?side4 ?side5 ?side6 A7.out).mono ?_);(case side1=>exact cL (cB HR0_0.out HB.out));(case side2=>exact HC0_0.out);(case side3=>exact cL (cB HR0_1.out HB.out));(case side4=>exact HC0_1.out);(case side5=>exact cL (cB HR0_2.out HB.out));(case side6=>exact HC0_2.out);rintro e w22 ⟨v243,v246,v249,rfl,ho0,ho1,ho2,hb⟩;refine ⟨_,rfl,?_⟩;have n0_:=Am (rW ho0 (bZ (by repeat (first|(with_reducible first|exact HB.out|apply oA|apply pN|apply o1|refine bS ?_ Bm.out)|exact HB.out))));have n1_:=Am (rW ho1 (bZ (by repeat (first|(with_reducible first|exact HB.out|apply oA|apply pN|apply o1|refine bS ?_ Bm.out)|exact HB.out))));have n2_:=Am (rW ho2 (bZ (by repeat (first|(with_reducible first|exact HB.out|apply oA|apply pN|apply o1|refine bS ?_ Bm.out)|exact HB.out))));have n3_:=Am (bX Ba.out hb);have n4_:=Am (bP (by repeat (first|(with_reducible first|exact HB.out|apply oA|apply pN|apply o1|refine bS ?_ Bm.out)|exact HB.out)) hb);clear Ba HB;revert n0_ n1_ n2_ n3_ n4_;intro Bw Bx BA Ba HB;(try clear hb);(try clear hb2);(try clear hk);(try clear hi);(try clear ho0);(try clear ho1);(try clear ho2);obtain ⟨Ao23,co23,eo23⟩:=rC Bw.out;subst eo23;obtain ⟨Ao24,co24,eo24⟩:=rC Bx.out;subst eo24;obtain ⟨Ao25,co25,eo25⟩:=rC BA.out;subst eo25)|((with_reducible refine gC (f:=27) rfl ?_);refine goesL_ (some 18) rfl rfl Try.func27 (by kernel_rfl) rfl #[.agg #[.slice Ao23 t242.length co23,.slice Ao24 t245.length co24,.slice Ao25 t248.length co25]] rfl (by (try simp only [lM,lC,lN]);first|done|rfl|(simp only [lD,lT];rfl)) ?_;(with_reducible refine (spec_SigsRun.calls k _ _ t242 _ _ t245 _ _ t248 t251 t254 t257 _ ?side1 ?side2 ?side3 ?side4 ?side5 ?side6 A8.out).mono ?_);(case side1=>exact cL (rR Bw.out).2.2);(case side2=>exact (rR Bw.out).2.1);(case side3=>exact cL (rR Bx.out).2.2);(case side4=>exact (rR Bx.out).2.1);(case side5=>exact cL (rR BA.out).2.2);(case side6=>exact (rR BA.out).2.1);rintro e w26 ⟨v252,v255,v258,rfl,ho0,ho1,ho2,hb⟩;refine ⟨_,rfl,?_⟩;have n0_:=Am (rM (rJ (rJ (rK (rL Bw.out) hb) (rZ ho0)) (rZ ho1)) (fun _ h_=>h_.1));have n1_:=Am (rM (rJ (rJ (rK (rL Bx.out) hb) (rZ ho0)) (rZ ho1)) (fun _ h_=>h_.1));have n2_:=Am (rX (rL BA.out) (rZ ho2) hb);have n3_:=Am (rW (rQ (rQ ho0 (rI (rL Bw.out))) (rI (rL Bx.out))) (bZ (by repeat (first|(with_reducible first|exact HB.out|apply oA|apply pN|apply o1|refine bS ?_ Bm.out)|exact HB.out))));have n4_:=Am (rW (rQ (rQ ho1 (rI (rL Bw.out))) (rI (rL Bx.out))) (bZ (by repeat (first|(with_reducible first|exact HB.out|apply oA|apply pN|apply o1|refine bS ?_ Bm.out)|exact HB.out))));have n5_:=Am (rW (rQ ho2 (rI (rL BA.out))) (bZ (by repeat (first|(with_reducible first|exact HB.out|apply oA|apply pN|apply o1|refine bS ?_ Bm.out)|exact HB.out))));have n6_:=Am (bX Ba.out hb);have n7_:=Am (bP (by repeat (first|(with_reducible first|exact HB.out|apply oA|apply pN|apply o1|refine bS ?_ Bm.out)|exact HB.out)) hb);clear Bw Bx BA Ba HB;revert n0_ n1_ n2_ n3_ n4_ n5_ n6_ n7_;intro Bw Bx BA By Bz BB Ba HB;(try clear hb);(try clear hb2);(try clear hk);(try clear hi);(try clear ho0);(try clear ho1);(try clear ho2))|((with_reducible refine gD (N:=4) rfl ?_);refine bI ?hg (N:=4) ?hd (cs:=#[.slice none 0 0,.slice none 0 0,.slice none 0 0]) (t:=27) ?hr ?_;(case hd=>rfl);(case hg=>rfl);(case hr=>first|(go_simp;done)|(go_simp;rfl));intro Bg hg w27 hbox hb;have n0_:=Am (rB (rL Bw.out) hb);have n1_:=Am (rB (rL Bx.out) hb);have n2_:=Am (rB (rL BA.out) hb);have n3_:=Am (rB (rL By.out) hb);have n4_:=Am (rB (rL Bz.out) hb);have n5_:=Am (rB (rL BB.out) hb);have n6_:=Am (bX Ba.out hb);have n7_:=Am (bP (by repeat (first|(with_reducible first|exact HB.out|apply oA|apply pN|apply o1|refine bS ?_ Bm.out)|exact HB.out)) hb);have n8_:=Am (hbox);have n9_:=Am ((by rw [hg];exact (bZ (by repeat (first|(with_reducible first|exact HB.out|apply oA|apply pN|apply o1|refine bS ?_ Bm.out)|exact HB.out))):w.heap.size≤Bg));have n10_:=Am ((by rw [hg];exact (bZ (by repeat (first|(with_reducible first|exact HB.out|apply oA|apply pN|apply o1|refine bS ?_ Bm.out)|exact HB.out))):w.heap.size≤Bg));have n11_:=Am ((nL Ba.out hg));have n12_:=Am ((nG Ba.out hg));clear Bw Bx BA By Bz BB Ba HB;revert n0_ n1_ n2_ n3_ n4_ n5_ n6_ n7_ n8_ n9_ n10_ n11_ n12_;intro Bw Bx BA By Bz BB Ba HB Bc F2 BC BS BX;clear hb hbox hg;obtain ⟨Ao28,co28,eo28⟩:=rC By.out;subst eo28;have F3:=BX.out;have F4:=BS.out;have Dp:=cz0 Bc.out;have Dq:=cz1 Bc.out;have Dr:=cz2 Bc.out;have Ds:=bF Bc.out 0;have Dt:=bF Bc.out 1;have Du:=bF Bc.out 2;obtain ⟨Ao31,co31,eo31⟩:=rC Bz.out;subst eo31;obtain ⟨Ao32,co32,eo32⟩:=rC BB.out;subst eo32;have Dv:=cz0 Ba.out;have Dw:=cz1 Ba.out;have Dx:=cz2 Ba.out;have Dy:=bF Ba.out 0;have Dz:=bF Ba.out 1;have DA:=bF Ba.out 2)|((with_reducible refine gC (f:=15) rfl ?_);refine goesL_ (some 20) rfl rfl Try.func15 (by kernel_rfl) rfl #[.agg #[.slice A0_0 l0_0.length c0_0,.slice A0_1 l0_1.length c0_1,.slice A0_2 l0_2.length c0_2]] rfl (by (try simp only [lM,lC,lN]);first|done|rfl|(simp only [lD,lT];rfl)) ?_;(with_reducible refine (laws_toSigs.calls k _ _ l0_0 _ _ l0_1 _ _ l0_2 t261 t264 t267 _ ?side1 ?side2 ?side3 ?side4 ?side5 ?side6 A9.out).mono ?_);(case side1=>exact cB HR0_0.out (by repeat (first|(with_reducible first|exact HB.out|apply oA|apply pN|apply o1|refine bS ?_ Bm.out|refine bS ?_ BC.out)|exact HB.out)));(case side2=>exact HC0_0.out);(case side3=>exact cB HR0_1.out (by repeat (first|(with_reducible first|exact HB.out|apply oA|apply pN|apply o1|refine bS ?_ Bm.out|refine bS ?_ BC.out)|exact HB.out)));(case side4=>exact HC0_1.out);(case side5=>exact cB HR0_2.out (by repeat (first|(with_reducible first|exact HB.out|apply oA|apply pN|apply o1|refine bS ?_ Bm.out|refine bS ?_ BC.out)|exact HB.out)));(case side6=>exact HC0_2.out);rintro e w34 ⟨v262,v265,v268,rfl,ho0,ho1,ho2,hb⟩;refine ⟨_,rfl,?_⟩;have n0_:=Am (rM (rJ (rJ (rK (by (with_reducible repeat (first|apply rA|apply rN|apply rD));exact (rM (rF (p:=⟨Bg,2,none⟩) (rF (p:=⟨Bg,1,none⟩) (rF (p:=⟨Bg,0,none⟩) (rT Bw.out Bc.out (by decide)) (fun _ hk=>hk.2) (.slice Ao28 t251.length co28)) (fun _ hk=>hk.2) (.slice Ao31 t254.length co31)) (fun _ hk=>hk.2) (.slice Ao32 t257.length co32)) (fun _ h_=>h_.1))) hb) (rZ ho0)) (rZ ho1)) (fun _ h_=>h_.1));have n1_:=Am (rM (rJ (rJ (rK (by (with_reducible repeat (first|apply rA|apply rN|apply rD));exact (rM (rF (p:=⟨Bg,2,none⟩) (rF (p:=⟨Bg,1,none⟩) (rF (p:=⟨Bg,0,none⟩) (rT Bx.out Bc.out (by decide)) (fun _ hk=>hk.2) (.slice Ao28 t251.length co28)) (fun _ hk=>hk.2) (.slice Ao31 t254.length co31)) (fun _ hk=>hk.2) (.slice Ao32 t257.length co32)) (fun _ h_=>h_.1))) hb) (rZ ho0)) (rZ ho1)) (fun _ h_=>h_.1));have n2_:=Am (rX (by (with_reducible repeat (first|apply rA|apply rN|apply rD));exact (rM (rF (p:=⟨Bg,2,none⟩) (rF (p:=⟨Bg,1,none⟩) (rF (p:=⟨Bg,0,none⟩) (rT BA.out Bc.out (by decide)) (fun _ hk=>hk.2) (.slice Ao28 t251.length co28)) (fun _ hk=>hk.2) (.slice Ao31 t254.length co31)) (fun _ hk=>hk.2) (.slice Ao32 t257.length co32)) (fun _ h_=>h_.1))) (rZ ho2) hb);have n3_:=Am (rM (rJ (rJ (rK (by (with_reducible repeat (first|apply rA|apply rN|apply rD));exact (rM (rF (p:=⟨Bg,2,none⟩) (rF (p:=⟨Bg,1,none⟩) (rF (p:=⟨Bg,0,none⟩) (rT By.out Bc.out (by decide)) (fun _ hk=>hk.2) (.slice Ao28 t251.length co28)) (fun _ hk=>hk.2) (.slice Ao31 t254.length co31)) (fun _ hk=>hk.2) (.slice Ao32 t257.length co32)) (fun _ h_=>h_.1))) hb) (rZ ho0)) (rZ ho1)) (fun _ h_=>h_.1));have n4_:=Am (rM (rJ (rJ (rK (by (with_reducible repeat (first|apply rA|apply rN|apply rD));exact (rM (rF (p:=⟨Bg,2,none⟩) (rF (p:=⟨Bg,1,none⟩) (rF (p:=⟨Bg,0,none⟩) (rT Bz.out Bc.out (by decide)) (fun _ hk=>hk.2) (.slice Ao28 t251.length co28)) (fun _ hk=>hk.2) (.slice Ao31 t254.length co31)) (fun _ hk=>hk.2) (.slice Ao32 t257.length co32)) (fun _ h_=>h_.1))) hb) (rZ ho0)) (rZ ho1)) (fun _ h_=>h_.1));have n5_:=Am (rX (by (with_reducible repeat (first|apply rA|apply rN|apply rD));exact (rM (rF (p:=⟨Bg,2,none⟩) (rF (p:=⟨Bg,1,none⟩) (rF (p:=⟨Bg,0,none⟩) (rT BB.out Bc.out (by decide)) (fun _ hk=>hk.2) (.slice Ao28 t251.length co28)) (fun _ hk=>hk.2) (.slice Ao31 t254.length co31)) (fun _ hk=>hk.2) (.slice Ao32 t257.length co32)) (fun _ h_=>h_.1))) (rZ ho2) hb);have n6_:=Am (rW (rQ (rQ (rQ (rQ ho0 (rI (by (with_reducible repeat (first|apply rA|apply rN|apply rD));exact (rM (rF (p:=⟨Bg,2,none⟩) (rF (p:=⟨Bg,1,none⟩) (rF (p:=⟨Bg,0,none⟩) (rT Bw.out Bc.out (by decide)) (fun _ hk=>hk.2) (.slice Ao28 t251.length co28)) (fun _ hk=>hk.2) (.slice Ao31 t254.length co31)) (fun _ hk=>hk.2) (.slice Ao32 t257.length co32)) (fun _ h_=>h_.1))))) (rI (by (with_reducible repeat (first|apply rA|apply rN|apply rD));exact (rM (rF (p:=⟨Bg,2,none⟩) (rF (p:=⟨Bg,1,none⟩) (rF (p:=⟨Bg,0,none⟩) (rT Bx.out Bc.out (by decide)) (fun _ hk=>hk.2) (.slice Ao28 t251.length co28)) (fun _ hk=>hk.2) (.slice Ao31 t254.length co31)) (fun _ hk=>hk.2) (.slice Ao32 t257.length co32)) (fun _ h_=>h_.1))))) (rI (by (with_reducible repeat (first|apply rA|apply rN|apply rD));exact (rM (rF (p:=⟨Bg,2,none⟩) (rF (p:=⟨Bg,1,none⟩) (rF (p:=⟨Bg,0,none⟩) (rT By.out Bc.out (by decide)) (fun _ hk=>hk.2) (.slice Ao28 t251.length co28)) (fun _ hk=>hk.2) (.slice Ao31 t254.length co31)) (fun _ hk=>hk.2) (.slice Ao32 t257.length co32)) (fun _ h_=>h_.1))))) (rI (by (with_reducible repeat (first|apply rA|apply rN|apply rD));exact (rM (rF (p:=⟨Bg,2,none⟩) (rF (p:=⟨Bg,1,none⟩) (rF (p:=⟨Bg,0,none⟩) (rT Bz.out Bc.out (by decide)) (fun _ hk=>hk.2) (.slice Ao28 t251.length co28)) (fun _ hk=>hk.2) (.slice Ao31 t254.length co31)) (fun _ hk=>hk.2) (.slice Ao32 t257.length co32)) (fun _ h_=>h_.1))))) (bZ (by repeat (first|(with_reducible first|exact HB.out|apply oA|apply pN|apply o1|refine bS ?_ Bm.out|refine bS ?_ BC.out)|exact HB.out))));have n7_:=Am (rW (rQ (rQ (rQ (rQ ho1 (rI (by (with_reducible repeat (first|apply rA|apply rN|apply rD));exact (rM (rF (p:=⟨Bg,2,none⟩) (rF (p:=⟨Bg,1,none⟩) (rF (p:=⟨Bg,0,none⟩) (rT Bw.out Bc.out (by decide)) (fun _ hk=>hk.2) (.slice Ao28 t251.length co28)) (fun _ hk=>hk.2) (.slice Ao31 t254.length co31)) (fun _ hk=>hk.2) (.slice Ao32 t257.length co32)) (fun _ h_=>h_.1))))) (rI (by (with_reducible repeat (first|apply rA|apply rN|apply rD));exact (rM (rF (p:=⟨Bg,2,none⟩) (rF (p:=⟨Bg,1,none⟩) (rF (p:=⟨Bg,0,none⟩) (rT Bx.out Bc.out (by decide)) (fun _ hk=>hk.2) (.slice Ao28 t251.length co28)) (fun _ hk=>hk.2) (.slice Ao31 t254.length co31)) (fun _ hk=>hk.2) (.slice Ao32 t257.length co32)) (fun _ h_=>h_.1))))) (rI (by (with_reducible repeat (first|apply rA|apply rN|apply rD));exact (rM (rF (p:=⟨Bg,2,none⟩) (rF (p:=⟨Bg,1,none⟩) (rF (p:=⟨Bg,0,none⟩) (rT By.out Bc.out (by decide)) (fun _ hk=>hk.2) (.slice Ao28 t251.length co28)) (fun _ hk=>hk.2) (.slice Ao31 t254.length co31)) (fun _ hk=>hk.2) (.slice Ao32 t257.length co32)) (fun _ h_=>h_.1))))) (rI (by (with_reducible repeat (first|apply rA|apply rN|apply rD));exact (rM (rF (p:=⟨Bg,2,none⟩) (rF (p:=⟨Bg,1,none⟩) (rF (p:=⟨Bg,0,none⟩) (rT Bz.out Bc.out (by decide)) (fun _ hk=>hk.2) (.slice Ao28 t251.length co28)) (fun _ hk=>hk.2) (.slice Ao31 t254.length co31)) (fun _ hk=>hk.2) (.slice Ao32 t257.length co32)) (fun _ h_=>h_.1))))) (bZ (by repeat (first|(with_reducible first|exact HB.out|apply oA|apply pN|apply o1|refine bS ?_ Bm.out|refine bS ?_ BC.out)|exact HB.out))));have n8_:=Am (rW (rQ (rQ ho2 (rI (by (with_reducible repeat (first|apply rA|apply rN|apply rD));exact (rM (rF (p:=⟨Bg,2,none⟩) (rF (p:=⟨Bg,1,none⟩) (rF (p:=⟨Bg,0,none⟩) (rT BA.out Bc.out (by decide)) (fun _ hk=>hk.2) (.slice Ao28 t251.length co28)) (fun _ hk=>hk.2) (.slice Ao31 t254.length co31)) (fun _ hk=>hk.2) (.slice Ao32 t257.length co32)) (fun _ h_=>h_.1))))) (rI (by (with_reducible repeat (first|apply rA|apply rN|apply rD));exact (rM (rF (p:=⟨Bg,2,none⟩) (rF (p:=⟨Bg,1,none⟩) (rF (p:=⟨Bg,0,none⟩) (rT BB.out Bc.out (by decide)) (fun _ hk=>hk.2) (.slice Ao28 t251.length co28)) (fun _ hk=>hk.2) (.slice Ao31 t254.length co31)) (fun _ hk=>hk.2) (.slice Ao32 t257.length co32)) (fun _ h_=>h_.1))))) (bZ (by repeat (first|(with_reducible first|exact HB.out|apply oA|apply pN|apply o1|refine bS ?_ Bm.out|refine bS ?_ BC.out)|exact HB.out))));have n9_:=Am (bB (g:=Bl) (o:=.cells #[.slice A0_0 l0_0.length c0_0,.slice A0_1 l0_1.length c0_1,.slice A0_2 l0_2.length c0_2] 25 (0,0)) (by (with_reducible repeat (first|refine bN ?_ _|refine bD ?_|refine bA ?_ _|refine bE ?_ BS.out _));exact Ba.out) hb);have n10_:=Am (bB (g:=Bg) (o:=.cells #[.slice Ao28 t251.length co28,.slice Ao31 t254.length co31,.slice Ao32 t257.length co32] 27 (0,0)) (by (with_reducible repeat (first|refine bN ?_ _|refine bD ?_|refine bA ?_ _));refine bT (cs:=#[.slice Ao28 t251.length co28,.slice Ao31 t254.length co31,.slice none 0 0]) ?_ 2 _ rfl;(with_reducible repeat (first|refine bN ?_ _|refine bD ?_|refine bA ?_ _));refine bT (cs:=#[.slice Ao28 t251.length co28,.slice none 0 0,.slice none 0 0]) ?_ 1 _ rfl;(with_reducible repeat (first|refine bN ?_ _|refine bD ?_|refine bA ?_ _));refine bT (cs:=#[.slice none 0 0,.slice none 0 0,.slice none 0 0]) ?_ 0 _ rfl;(with_reducible repeat (first|refine bN ?_ _|refine bD ?_|refine bA ?_ _));exact Bc.out) hb);have n11_:=Am (bP (by repeat (first|(with_reducible first|exact HB.out|apply oA|apply pN|apply o1|refine bS ?_ Bm.out|refine bS ?_ BC.out)|exact HB.out)) hb);clear Bw Bx BA By Bz BB Ba Bc HB;revert n0_ n1_ n2_ n3_ n4_ n5_ n6_ n7_ n8_ n9_ n10_ n11_;intro Bw Bx BA By Bz BB Bu Bv Bs Ba Bc HB;(try clear hb);(try clear hb2);(try clear hk);(try clear hi);(try clear ho0);(try clear ho1);(try clear ho2))|((with_reducible refine gD (N:=5) rfl ?_);refine bI ?hg (N:=5) ?hd (cs:=#[.slice none 0 0,.slice none 0 0,.slice none 0 0]) (t:=27) ?hr ?_;(case hd=>rfl);(case hg=>rfl);(case hr=>first|(go_simp;done)|(go_simp;rfl));intro Bb hg w35 hbox hb;have n0_:=Am (rB (rL Bw.out) hb);have n1_:=Am (rB (rL Bx.out) hb);have n2_:=Am (rB (rL BA.out) hb);have n3_:=Am (rB (rL By.out) hb);have n4_:=Am (rB (rL Bz.out) hb);have n5_:=Am (rB (rL BB.out) hb);have n6_:=Am (rB (rL Bu.out) hb);have n7_:=Am (rB (rL Bv.out) hb);have n8_:=Am (rB (rL Bs.out) hb);have n9_:=Am (bX Ba.out hb);have n10_:=Am (bX Bc.out hb);have n11_:=Am (bP (by repeat (first|(with_reducible first|exact HB.out|apply oA|apply pN|apply o1|refine bS ?_ Bm.out|refine bS ?_ BC.out)|exact HB.out)) hb);have n12_:=Am (hbox);have n13_:=Am ((by rw [hg];exact (bZ (by repeat (first|(with_reducible first|exact HB.out|apply oA|apply pN|apply o1|refine bS ?_ Bm.out|refine bS ?_ BC.out)|exact HB.out))):w.heap.size≤Bb));have n14_:=Am ((by rw [hg];exact (bZ (by repeat (first|(with_reducible first|exact HB.out|apply oA|apply pN|apply o1|refine bS ?_ Bm.out|refine bS ?_ BC.out)|exact HB.out))):w.heap.size≤Bb));have n15_:=Am ((nL Ba.out hg));have n16_:=Am ((nG Ba.out hg));have n17_:=Am ((nL Bc.out hg));have n18_:=Am ((nG Bc.out hg));clear Bw Bx BA By Bz BB Bu Bv Bs Ba Bc HB;revert n0_ n1_ n2_ n3_ n4_ n5_ n6_ n7_ n8_ n9_ n10_ n11_ n12_ n13_ n14_ n15_ n16_ n17_ n18_;intro Bw Bx BA By Bz BB Bu Bv Bs Ba Bc HB Bd F5 BD BY B3 BT BZ;clear hb hbox hg;obtain ⟨Ao36,co36,eo36⟩:=rC Bu.out;subst eo36;have F6:=B3.out;have F7:=BY.out;have F8:=BZ.out;have F9:=BT.out;have DB:=cz0 Bd.out;have DC:=cz1 Bd.out;have DD:=cz2 Bd.out;have DE:=bF Bd.out 0;have DF:=bF Bd.out 1;have DG:=bF Bd.out 2;obtain ⟨Ao40,co40,eo40⟩:=rC Bv.out;subst eo40;obtain ⟨Ao41,co41,eo41⟩:=rC Bs.out;subst eo41)|((with_reducible refine gC (f:=28) rfl ?_);refine goesL_ (some 22) rfl rfl Try.func28 (by kernel_rfl) rfl #[.agg #[.slice Ao36 t261.length co36,.slice Ao40 t264.length co40,.slice Ao41 t267.length co41]] rfl (by (try simp only [lM,lC,lN]);first|done|rfl|(simp only [lD,lT];rfl)) ?_;(with_reducible refine (impl_SigsRun.calls k _ _ t261 _ _ t264 _ _ t267 t271 t274 t277 _ ?side1 ?side2 ?side3 ?side4 ?side5 ?side6 A10.out).mono ?_);(case side1=>refine (rR (e:=4) (base:=w.heap.size) (ok:=fun k_=>((((some k_≠(.slice Ao40 t264.length co40:Value).ownBlock∧some k_≠(.slice Ao23 t242.length co23:Value).ownBlock)∧some k_≠(.slice Ao24 t245.length co24:Value).ownBlock)∧some k_≠(.slice Ao28 t251.length co28:Value).ownBlock)∧some k_≠(.slice Ao31 t254.length co31:Value).ownBlock)) (n:=t261.length) (c:=co36) ?_).2.2;exact (by (with_reducible repeat (first|apply rA|apply rN|apply rD));exact (rM (rF (p:=⟨Bb,2,none⟩) (rF (p:=⟨Bb,1,none⟩) (rF (p:=⟨Bb,0,none⟩) (rT Bu.out Bd.out (by decide)) (fun _ hk=>hk.2) (.slice Ao36 t261.length co36)) (fun _ hk=>hk.2) (.slice Ao40 t264.length co40)) (fun _ hk=>hk.2) (.slice Ao41 t267.length co41)) (fun _ h_=>h_.1))));(case side2=>exact (rR Bu.out).2.1);(case side3=>refine (rR (e:=4) (base:=w.heap.size) (ok:=fun k_=>((((some k_≠(.slice Ao36 t261.length co36:Value).ownBlock∧some k_≠(.slice Ao23 t242.length co23:Value).ownBlock)∧some k_≠(.slice Ao24 t245.length co24:Value).ownBlock)∧some k_≠(.slice Ao28 t251.length co28:Value).ownBlock)∧some k_≠(.slice Ao31 t254.length co31:Value).ownBlock)) (n:=t264.length) (c:=co40) ?_).2.2;exact (by (with_reducible repeat (first|apply rA|apply rN|apply rD));exact (rM (rF (p:=⟨Bb,2,none⟩) (rF (p:=⟨Bb,1,none⟩) (rF (p:=⟨Bb,0,none⟩) (rT Bv.out Bd.out (by decide)) (fun _ hk=>hk.2) (.slice Ao36 t261.length co36)) (fun _ hk=>hk.2) (.slice Ao40 t264.length co40)) (fun _ hk=>hk.2) (.slice Ao41 t267.length co41)) (fun _ h_=>h_.1))));(case side4=>exact (rR Bv.out).2.1);(case side5=>refine (rR (e:=3) (base:=w.heap.size) (ok:=fun k_=>((True∧some k_≠(.slice Ao25 t248.length co25:Value).ownBlock)∧some k_≠(.slice Ao32 t257.length co32:Value).ownBlock)) (n:=t267.length) (c:=co41) ?_).2.2;exact (by (with_reducible repeat (first|apply rA|apply rN|apply rD));exact (rM (rF (p:=⟨Bb,2,none⟩) (rF (p:=⟨Bb,1,none⟩) (rF (p:=⟨Bb,0,none⟩) (rT Bs.out Bd.out (by decide)) (fun _ hk=>hk.2) (.slice Ao36 t261.length co36)) (fun _ hk=>hk.2) (.slice Ao40 t264.length co40)) (fun _ hk=>hk.2) (.slice Ao41 t267.length co41)) (fun _ h_=>h_.1))));(case side6=>exact (rR Bs.out).2.1);rintro e w42 ⟨v272,v275,v278,rfl,ho0,ho1,ho2,hb⟩;refine ⟨_,rfl,?_⟩;have n0_:=Am (rM (rJ (rJ (rK (by (with_reducible repeat (first|apply rA|apply rN|apply rD));exact (rM (rF (p:=⟨Bb,2,none⟩) (rF (p:=⟨Bb,1,none⟩) (rF (p:=⟨Bb,0,none⟩) (rT Bw.out Bd.out (by decide)) (fun _ hk=>hk.2) (.slice Ao36 t261.length co36)) (fun _ hk=>hk.2) (.slice Ao40 t264.length co40)) (fun _ hk=>hk.2) (.slice Ao41 t267.length co41)) (fun _ h_=>h_.1))) hb) (rZ ho0)) (rZ ho1)) (fun _ h_=>h_.1));have n1_:=Am (rM (rJ (rJ (rK (by (with_reducible repeat (first|apply rA|apply rN|apply rD));exact (rM (rF (p:=⟨Bb,2,none⟩) (rF (p:=⟨Bb,1,none⟩) (rF (p:=⟨Bb,0,none⟩) (rT Bx.out Bd.out (by decide)) (fun _ hk=>hk.2) (.slice Ao36 t261.length co36)) (fun _ hk=>hk.2) (.slice Ao40 t264.length co40)) (fun _ hk=>hk.2) (.slice Ao41 t267.length co41)) (fun _ h_=>h_.1))) hb) (rZ ho0)) (rZ ho1)) (fun _ h_=>h_.1));have n2_:=Am (rX (by (with_reducible repeat (first|apply rA|apply rN|apply rD));exact (rM (rF (p:=⟨Bb,2,none⟩) (rF (p:=⟨Bb,1,none⟩) (rF (p:=⟨Bb,0,none⟩) (rT BA.out Bd.out (by decide)) (fun _ hk=>hk.2) (.slice Ao36 t261.length co36)) (fun _ hk=>hk.2) (.slice Ao40 t264.length co40)) (fun _ hk=>hk.2) (.slice Ao41 t267.length co41)) (fun _ h_=>h_.1))) (rZ ho2) hb);have n3_:=Am (rM (rJ (rJ (rK (by (with_reducible repeat (first|apply rA|apply rN|apply rD));exact (rM (rF (p:=⟨Bb,2,none⟩) (rF (p:=⟨Bb,1,none⟩) (rF (p:=⟨Bb,0,none⟩) (rT By.out Bd.out (by decide)) (fun _ hk=>hk.2) (.slice Ao36 t261.length co36)) (fun _ hk=>hk.2) (.slice Ao40 t264.length co40)) (fun _ hk=>hk.2) (.slice Ao41 t267.length co41)) (fun _ h_=>h_.1))) hb) (rZ ho0)) (rZ ho1)) (fun _ h_=>h_.1));have n4_:=Am (rM (rJ (rJ (rK (by (with_reducible repeat (first|apply rA|apply rN|apply rD));exact (rM (rF (p:=⟨Bb,2,none⟩) (rF (p:=⟨Bb,1,none⟩) (rF (p:=⟨Bb,0,none⟩) (rT Bz.out Bd.out (by decide)) (fun _ hk=>hk.2) (.slice Ao36 t261.length co36)) (fun _ hk=>hk.2) (.slice Ao40 t264.length co40)) (fun _ hk=>hk.2) (.slice Ao41 t267.length co41)) (fun _ h_=>h_.1))) hb) (rZ ho0)) (rZ ho1)) (fun _ h_=>h_.1));have n5_:=Am (rX (by (with_reducible repeat (first|apply rA|apply rN|apply rD));exact (rM (rF (p:=⟨Bb,2,none⟩) (rF (p:=⟨Bb,1,none⟩) (rF (p:=⟨Bb,0,none⟩) (rT BB.out Bd.out (by decide)) (fun _ hk=>hk.2) (.slice Ao36 t261.length co36)) (fun _ hk=>hk.2) (.slice Ao40 t264.length co40)) (fun _ hk=>hk.2) (.slice Ao41 t267.length co41)) (fun _ h_=>h_.1))) (rZ ho2) hb);have n6_:=Am (rM (rJ (rJ (rK (by (with_reducible repeat (first|apply rA|apply rN|apply rD));exact (rM (rF (p:=⟨Bb,2,none⟩) (rF (p:=⟨Bb,1,none⟩) (rF (p:=⟨Bb,0,none⟩) (rT Bu.out Bd.out (by decide)) (fun _ hk=>hk.2) (.slice Ao36 t261.length co36)) (fun _ hk=>hk.2) (.slice Ao40 t264.length co40)) (fun _ hk=>hk.2) (.slice Ao41 t267.length co41)) (fun _ h_=>h_.1))) hb) (rZ ho0)) (rZ ho1)) (fun _ h_=>h_.1));have n7_:=Am (rM (rJ (rJ (rK (by (with_reducible repeat (first|apply rA|apply rN|apply rD));exact (rM (rF (p:=⟨Bb,2,none⟩) (rF (p:=⟨Bb,1,none⟩) (rF (p:=⟨Bb,0,none⟩) (rT Bv.out Bd.out (by decide)) (fun _ hk=>hk.2) (.slice Ao36 t261.length co36)) (fun _ hk=>hk.2) (.slice Ao40 t264.length co40)) (fun _ hk=>hk.2) (.slice Ao41 t267.length co41)) (fun _ h_=>h_.1))) hb) (rZ ho0)) (rZ ho1)) (fun _ h_=>h_.1));have n8_:=Am (rX (by (with_reducible repeat (first|apply rA|apply rN|apply rD));exact (rM (rF (p:=⟨Bb,2,none⟩) (rF (p:=⟨Bb,1,none⟩) (rF (p:=⟨Bb,0,none⟩) (rT Bs.out Bd.out (by decide)) (fun _ hk=>hk.2) (.slice Ao36 t261.length co36)) (fun _ hk=>hk.2) (.slice Ao40 t264.length co40)) (fun _ hk=>hk.2) (.slice Ao41 t267.length co41)) (fun _ h_=>h_.1))) (rZ ho2) hb);have n9_:=Am (rW (rQ (rQ (rQ (rQ (rQ (rQ ho0 (rI (by (with_reducible repeat (first|apply rA|apply rN|apply rD));exact (rM (rF (p:=⟨Bb,2,none⟩) (rF (p:=⟨Bb,1,none⟩) (rF (p:=⟨Bb,0,none⟩) (rT Bw.out Bd.out (by decide)) (fun _ hk=>hk.2) (.slice Ao36 t261.length co36)) (fun _ hk=>hk.2) (.slice Ao40 t264.length co40)) (fun _ hk=>hk.2) (.slice Ao41 t267.length co41)) (fun _ h_=>h_.1))))) (rI (by (with_reducible repeat (first|apply rA|apply rN|apply rD));exact (rM (rF (p:=⟨Bb,2,none⟩) (rF (p:=⟨Bb,1,none⟩) (rF (p:=⟨Bb,0,none⟩) (rT Bx.out Bd.out (by decide)) (fun _ hk=>hk.2) (.slice Ao36 t261.length co36)) (fun _ hk=>hk.2) (.slice Ao40 t264.length co40)) (fun _ hk=>hk.2) (.slice Ao41 t267.length co41)) (fun _ h_=>h_.1))))) (rI (by (with_reducible repeat (first|apply rA|apply rN|apply rD));exact (rM (rF (p:=⟨Bb,2,none⟩) (rF (p:=⟨Bb,1,none⟩) (rF (p:=⟨Bb,0,none⟩) (rT By.out Bd.out (by decide)) (fun _ hk=>hk.2) (.slice Ao36 t261.length co36)) (fun _ hk=>hk.2) (.slice Ao40 t264.length co40)) (fun _ hk=>hk.2) (.slice Ao41 t267.length co41)) (fun _ h_=>h_.1))))) (rI (by (with_reducible repeat (first|apply rA|apply rN|apply rD));exact (rM (rF (p:=⟨Bb,2,none⟩) (rF (p:=⟨Bb,1,none⟩) (rF (p:=⟨Bb,0,none⟩) (rT Bz.out Bd.out (by decide)) (fun _ hk=>hk.2) (.slice Ao36 t261.length co36)) (fun _ hk=>hk.2) (.slice Ao40 t264.length co40)) (fun _ hk=>hk.2) (.slice Ao41 t267.length co41)) (fun _ h_=>h_.1))))) (rI (by (with_reducible repeat (first|apply rA|apply rN|apply rD));exact (rM (rF (p:=⟨Bb,2,none⟩) (rF (p:=⟨Bb,1,none⟩) (rF (p:=⟨Bb,0,none⟩) (rT Bu.out Bd.out (by decide)) (fun _ hk=>hk.2) (.slice Ao36 t261.length co36)) (fun _ hk=>hk.2) (.slice Ao40 t264.length co40)) (fun _ hk=>hk.2) (.slice Ao41 t267.length co41)) (fun _ h_=>h_.1))))) (rI (by (with_reducible repeat (first|apply rA|apply rN|apply rD));exact (rM (rF (p:=⟨Bb,2,none⟩) (rF (p:=⟨Bb,1,none⟩) (rF (p:=⟨Bb,0,none⟩) (rT Bv.out Bd.out (by decide)) (fun _ hk=>hk.2) (.slice Ao36 t261.length co36)) (fun _ hk=>hk.2) (.slice Ao40 t264.length co40)) (fun _ hk=>hk.2) (.slice Ao41 t267.length co41)) (fun _ h_=>h_.1))))) (bZ (by repeat (first|(with_reducible first|exact HB.out|apply oA|apply pN|apply o1|refine bS ?_ Bm.out|refine bS ?_ BC.out|refine bS ?_ BD.out)|exact HB.out))));have n10_:=Am (rW (rQ (rQ (rQ (rQ (rQ (rQ ho1 (rI (by (with_reducible repeat (first|apply rA|apply rN|apply rD));exact (rM (rF (p:=⟨Bb,2,none⟩) (rF (p:=⟨Bb,1,none⟩) (rF (p:=⟨Bb,0,none⟩) (rT Bw.out Bd.out (by decide)) (fun _ hk=>hk.2) (.slice Ao36 t261.length co36)) (fun _ hk=>hk.2) (.slice Ao40 t264.length co40)) (fun _ hk=>hk.2) (.slice Ao41 t267.length co41)) (fun _ h_=>h_.1))))) (rI (by (with_reducible repeat (first|apply rA|apply rN|apply rD));exact (rM (rF (p:=⟨Bb,2,none⟩) (rF (p:=⟨Bb,1,none⟩) (rF (p:=⟨Bb,0,none⟩) (rT Bx.out Bd.out (by decide)) (fun _ hk=>hk.2) (.slice Ao36 t261.length co36)) (fun _ hk=>hk.2) (.slice Ao40 t264.length co40)) (fun _ hk=>hk.2) (.slice Ao41 t267.length co41)) (fun _ h_=>h_.1))))) (rI (by (with_reducible repeat (first|apply rA|apply rN|apply rD));exact (rM (rF (p:=⟨Bb,2,none⟩) (rF (p:=⟨Bb,1,none⟩) (rF (p:=⟨Bb,0,none⟩) (rT By.out Bd.out (by decide)) (fun _ hk=>hk.2) (.slice Ao36 t261.length co36)) (fun _ hk=>hk.2) (.slice Ao40 t264.length co40)) (fun _ hk=>hk.2) (.slice Ao41 t267.length co41)) (fun _ h_=>h_.1))))) (rI (by (with_reducible repeat (first|apply rA|apply rN|apply rD));exact (rM (rF (p:=⟨Bb,2,none⟩) (rF (p:=⟨Bb,1,none⟩) (rF (p:=⟨Bb,0,none⟩) (rT Bz.out Bd.out (by decide)) (fun _ hk=>hk.2) (.slice Ao36 t261.length co36)) (fun _ hk=>hk.2) (.slice Ao40 t264.length co40)) (fun _ hk=>hk.2) (.slice Ao41 t267.length co41)) (fun _ h_=>h_.1))))) (rI (by (with_reducible repeat (first|apply rA|apply rN|apply rD));exact (rM (rF (p:=⟨Bb,2,none⟩) (rF (p:=⟨Bb,1,none⟩) (rF (p:=⟨Bb,0,none⟩) (rT Bu.out Bd.out (by decide)) (fun _ hk=>hk.2) (.slice Ao36 t261.length co36)) (fun _ hk=>hk.2) (.slice Ao40 t264.length co40)) (fun _ hk=>hk.2) (.slice Ao41 t267.length co41)) (fun _ h_=>h_.1))))) (rI (by (with_reducible repeat (first|apply rA|apply rN|apply rD));exact (rM (rF (p:=⟨Bb,2,none⟩) (rF (p:=⟨Bb,1,none⟩) (rF (p:=⟨Bb,0,none⟩) (rT Bv.out Bd.out (by decide)) (fun _ hk=>hk.2) (.slice Ao36 t261.length co36)) (fun _ hk=>hk.2) (.slice Ao40 t264.length co40)) (fun _ hk=>hk.2) (.slice Ao41 t267.length co41)) (fun _ h_=>h_.1))))) (bZ (by repeat (first|(with_reducible first|exact HB.out|apply oA|apply pN|apply o1|refine bS ?_ Bm.out|refine bS ?_ BC.out|refine bS ?_ BD.out)|exact HB.out))));have n11_:=Am (rW (rQ (rQ (rQ ho2 (rI (by (with_reducible repeat (first|apply rA|apply rN|apply rD));exact (rM (rF (p:=⟨Bb,2,none⟩) (rF (p:=⟨Bb,1,none⟩) (rF (p:=⟨Bb,0,none⟩) (rT BA.out Bd.out (by decide)) (fun _ hk=>hk.2) (.slice Ao36 t261.length co36)) (fun _ hk=>hk.2) (.slice Ao40 t264.length co40)) (fun _ hk=>hk.2) (.slice Ao41 t267.length co41)) (fun _ h_=>h_.1))))) (rI (by (with_reducible repeat (first|apply rA|apply rN|apply rD));exact (rM (rF (p:=⟨Bb,2,none⟩) (rF (p:=⟨Bb,1,none⟩) (rF (p:=⟨Bb,0,none⟩) (rT BB.out Bd.out (by decide)) (fun _ hk=>hk.2) (.slice Ao36 t261.length co36)) (fun _ hk=>hk.2) (.slice Ao40 t264.length co40)) (fun _ hk=>hk.2) (.slice Ao41 t267.length co41)) (fun _ h_=>h_.1))))) (rI (by (with_reducible repeat (first|apply rA|apply rN|apply rD));exact (rM (rF (p:=⟨Bb,2,none⟩) (rF (p:=⟨Bb,1,none⟩) (rF (p:=⟨Bb,0,none⟩) (rT Bs.out Bd.out (by decide)) (fun _ hk=>hk.2) (.slice Ao36 t261.length co36)) (fun _ hk=>hk.2) (.slice Ao40 t264.length co40)) (fun _ hk=>hk.2) (.slice Ao41 t267.length co41)) (fun _ h_=>h_.1))))) (bZ (by repeat (first|(with_reducible first|exact HB.out|apply oA|apply pN|apply o1|refine bS ?_ Bm.out|refine bS ?_ BC.out|refine bS ?_ BD.out)|exact HB.out))));have n12_:=Am (bB (g:=Bl) (o:=.cells #[.slice A0_0 l0_0.length c0_0,.slice A0_1 l0_1.length c0_1,.slice A0_2 l0_2.length c0_2] 25 (0,0)) (by (with_reducible repeat (first|refine bN ?_ _|refine bD ?_|refine bA ?_ _|refine bE ?_ BY.out _));exact Ba.out) hb);have n13_:=Am (bB (g:=Bg) (o:=.cells #[.slice Ao28 t251.length co28,.slice Ao31 t254.length co31,.slice Ao32 t257.length co32] 27 (0,0)) (by (with_reducible repeat (first|refine bN ?_ _|refine bD ?_|refine bA ?_ _|refine bE ?_ BT.out _));exact Bc.out) hb);have n14_:=Am (bB (g:=Bb) (o:=.cells #[.slice Ao36 t261.length co36,.slice Ao40 t264.length co40,.slice Ao41 t267.length co41] 27 (0,0)) (by (with_reducible repeat (first|refine bN ?_ _|refine bD ?_|refine bA ?_ _));refine bT (cs:=#[.slice Ao36 t261.length co36,.slice Ao40 t264.length co40,.slice none 0 0]) ?_ 2 _ rfl;(with_reducible repeat (first|refine bN ?_ _|refine bD ?_|refine bA ?_ _));refine bT (cs:=#[.slice Ao36 t261.length co36,.slice none 0 0,.slice none 0 0]) ?_ 1 _ rfl;(with_reducible repeat (first|refine bN ?_ _|refine bD ?_|refine bA ?_ _));refine bT (cs:=#[.slice none 0 0,.slice none 0 0,.slice none 0 0]) ?_ 0 _ rfl;(with_reducible repeat (first|refine bN ?_ _|refine bD ?_|refine bA ?_ _));exact Bd.out) hb);have n15_:=Am (bP (by repeat (first|(with_reducible first|exact HB.out|apply oA|apply pN|apply o1|refine bS ?_ Bm.out|refine bS ?_ BC.out|refine bS ?_ BD.out)|exact HB.out)) hb);clear Bw Bx BA By Bz BB Bu Bv Bs Ba Bc Bd HB;revert n0_ n1_ n2_ n3_ n4_ n5_ n6_ n7_ n8_ n9_ n10_ n11_ n12_ n13_ n14_ n15_;intro Bw Bx BA By Bz BB Bu Bv Bs BF BG BH Ba Bc Bd HB;(try clear hb);(try clear hb2);(try clear hk);(try clear hi);(try clear ho0);(try clear ho1);(try clear ho2))|((with_reducible refine gD (N:=6) rfl ?_);refine bI ?hg (N:=6) ?hd (cs:=#[.slice none 0 0,.slice none 0 0,.slice none 0 0]) (t:=27) ?hr ?_;(case hd=>rfl);(case hg=>rfl);(case hr=>first|(go_simp;done)|(go_simp;rfl));intro Bf hg w43 hbox hb;have n0_:=Am (rB (rL Bw.out) hb);have n1_:=Am (rB (rL Bx.out) hb);have n2_:=Am (rB (rL BA.out) hb);have n3_:=Am (rB (rL By.out) hb);have n4_:=Am (rB (rL Bz.out) hb);have n5_:=Am (rB (rL BB.out) hb);have n6_:=Am (rB (rL Bu.out) hb);have n7_:=Am (rB (rL Bv.out) hb);have n8_:=Am (rB (rL Bs.out) hb);have n9_:=Am (rB (rL BF.out) hb);have n10_:=Am (rB (rL BG.out) hb);have n11_:=Am (rB (rL BH.out) hb);have n12_:=Am (bX Ba.out hb);have n13_:=Am (bX Bc.out hb);have n14_:=Am (bX Bd.out hb);have n15_:=Am (bP (by repeat (first|(with_reducible first|exact HB.out|apply oA|apply pN|apply o1|refine bS ?_ Bm.out|refine bS ?_ BC.out|refine bS ?_ BD.out)|exact HB.out)) hb);have n16_:=Am (hbox);have n17_:=Am ((by rw [hg];exact (bZ (by repeat (first|(with_reducible first|exact HB.out|apply oA|apply pN|apply o1|refine bS ?_ Bm.out|refine bS ?_ BC.out|refine bS ?_ BD.out)|exact HB.out))):w.heap.size≤Bf));have n18_:=Am ((by rw [hg];exact (bZ (by repeat (first|(with_reducible first|exact HB.out|apply oA|apply pN|apply o1|refine bS ?_ Bm.out|refine bS ?_ BC.out|refine bS ?_ BD.out)|exact HB.out))):w.heap.size≤Bf));have n19_:=Am ((nL Ba.out hg));have n20_:=Am ((nG Ba.out hg));have n21_:=Am ((nL Bc.out hg));have n22_:=Am ((nG Bc.out hg));have n23_:=Am ((nL Bd.out hg));have n24_:=Am ((nG Bd.out hg));clear Bw Bx BA By Bz BB Bu Bv Bs BF BG BH Ba Bc Bd HB;revert n0_ n1_ n2_ n3_ n4_ n5_ n6_ n7_ n8_ n9_ n10_ n11_ n12_ n13_ n14_ n15_ n16_ n17_ n18_ n19_ n20_ n21_ n22_ n23_ n24_;intro Bw Bx BA By Bz BB Bu Bv Bs BF BG BH Ba Bc Bd HB Be Ga BI BU B0 BV B1 BW B2;clear hb hbox hg;obtain ⟨Ao44,co44,eo44⟩:=rC BF.out;subst eo44;have Gb:=B0.out;have Gc:=BU.out;have Gd:=B1.out;have Ge:=BV.out;have Gf:=B2.out;have Gg:=BW.out;have DH:=cz0 Be.out;have DI:=cz1 Be.out;have DJ:=cz2 Be.out;have DK:=bF Be.out 0;have DL:=bF Be.out 1;have DM:=bF Be.out 2;obtain ⟨Ao49,co49,eo49⟩:=rC BG.out;subst eo49;obtain ⟨Ao50,co50,eo50⟩:=rC BH.out;subst eo50;have DN:=cz0 Bc.out;have DO:=cz1 Bc.out;have DP:=cz2 Bc.out;have DQ:=bF Bc.out 0;have DR:=bF Bc.out 1;have DS:=bF Bc.out 2)|((with_reducible refine gC (f:=17) rfl ?_);refine goesL_ (some 25) rfl rfl Try.func17 (by kernel_rfl) rfl #[.agg #[.slice Ao44 t271.length co44,.slice Ao49 t274.length co49,.slice Ao50 t277.length co50],.agg #[.slice Ao28 t251.length co28,.slice Ao31 t254.length co31,.slice Ao32 t257.length co32]] rfl (by (try simp only [lM,lC,lN]);first|done|rfl|(simp only [lD,lT];rfl)) ?_;(with_reducible refine (laws_eqSigs.calls k _ _ t271 _ _ t274 _ _ t277 _ _ t251 _ _ t254 _ _ t257 true _ ?side1 ?side2 ?side3 ?side4 ?side5 ?side6 ?side7 ?side8 ?side9 ?side10 ?side11 ?side12 A11.out).mono ?_);(case side1=>refine (rR (e:=4) (base:=w.heap.size) (ok:=fun k_=>((((((some k_≠(.slice Ao49 t274.length co49:Value).ownBlock∧some k_≠(.slice Ao23 t242.length co23:Value).ownBlock)∧some k_≠(.slice Ao24 t245.length co24:Value).ownBlock)∧some k_≠(.slice Ao28 t251.length co28:Value).ownBlock)∧some k_≠(.slice Ao31 t254.length co31:Value).ownBlock)∧some k_≠(.slice Ao36 t261.length co36:Value).ownBlock)∧some k_≠(.slice Ao40 t264.length co40:Value).ownBlock)) (n:=t271.length) (c:=co44) ?_).2.2;exact (by (with_reducible repeat (first|apply rA|apply rN|apply rD));exact (rM (rF (p:=⟨Bf,2,none⟩) (rF (p:=⟨Bf,1,none⟩) (rF (p:=⟨Bf,0,none⟩) (rT BF.out Be.out (by decide)) (fun _ hk=>hk.2) (.slice Ao44 t271.length co44)) (fun _ hk=>hk.2) (.slice Ao49 t274.length co49)) (fun _ hk=>hk.2) (.slice Ao50 t277.length co50)) (fun _ h_=>h_.1))));(case side2=>exact (rR BF.out).2.1);(case side3=>refine (rR (e:=4) (base:=w.heap.size) (ok:=fun k_=>((((((some k_≠(.slice Ao44 t271.length co44:Value).ownBlock∧some k_≠(.slice Ao23 t242.length co23:Value).ownBlock)∧some k_≠(.slice Ao24 t245.length co24:Value).ownBlock)∧some k_≠(.slice Ao28 t251.length co28:Value).ownBlock)∧some k_≠(.slice Ao31 t254.length co31:Value).ownBlock)∧some k_≠(.slice Ao36 t261.length co36:Value).ownBlock)∧some k_≠(.slice Ao40 t264.length co40:Value).ownBlock)) (n:=t274.length) (c:=co49) ?_).2.2;exact (by (with_reducible repeat (first|apply rA|apply rN|apply rD));exact (rM (rF (p:=⟨Bf,2,none⟩) (rF (p:=⟨Bf,1,none⟩) (rF (p:=⟨Bf,0,none⟩) (rT BG.out Be.out (by decide)) (fun _ hk=>hk.2) (.slice Ao44 t271.length co44)) (fun _ hk=>hk.2) (.slice Ao49 t274.length co49)) (fun _ hk=>hk.2) (.slice Ao50 t277.length co50)) (fun _ h_=>h_.1))));(case side4=>exact (rR BG.out).2.1);(case side5=>refine (rR (e:=3) (base:=w.heap.size) (ok:=fun k_=>(((True∧some k_≠(.slice Ao25 t248.length co25:Value).ownBlock)∧some k_≠(.slice Ao32 t257.length co32:Value).ownBlock)∧some k_≠(.slice Ao41 t267.length co41:Value).ownBlock)) (n:=t277.length) (c:=co50) ?_).2.2;exact (by (with_reducible repeat (first|apply rA|apply rN|apply rD));exact (rM (rF (p:=⟨Bf,2,none⟩) (rF (p:=⟨Bf,1,none⟩) (rF (p:=⟨Bf,0,none⟩) (rT BH.out Be.out (by decide)) (fun _ hk=>hk.2) (.slice Ao44 t271.length co44)) (fun _ hk=>hk.2) (.slice Ao49 t274.length co49)) (fun _ hk=>hk.2) (.slice Ao50 t277.length co50)) (fun _ h_=>h_.1))));(case side6=>exact (rR BH.out).2.1);(case side7=>refine (rR (e:=4) (base:=w.heap.size) (ok:=fun k_=>((((((some k_≠(.slice Ao31 t254.length co31:Value).ownBlock∧some k_≠(.slice Ao23 t242.length co23:Value).ownBlock)∧some k_≠(.slice Ao24 t245.length co24:Value).ownBlock)∧some k_≠(.slice Ao36 t261.length co36:Value).ownBlock)∧some k_≠(.slice Ao40 t264.length co40:Value).ownBlock)∧some k_≠(.slice Ao44 t271.length co44:Value).ownBlock)∧some k_≠(.slice Ao49 t274.length co49:Value).ownBlock)) (n:=t251.length) (c:=co28) ?_).2.2;exact (by (with_reducible repeat (first|apply rA|apply rN|apply rD));exact (rM (rF (p:=⟨Bf,2,none⟩) (rF (p:=⟨Bf,1,none⟩) (rF (p:=⟨Bf,0,none⟩) (rT By.out Be.out (by decide)) (fun _ hk=>hk.2) (.slice Ao44 t271.length co44)) (fun _ hk=>hk.2) (.slice Ao49 t274.length co49)) (fun _ hk=>hk.2) (.slice Ao50 t277.length co50)) (fun _ h_=>h_.1))));(case side8=>exact (rR By.out).2.1);(case side9=>refine (rR (e:=4) (base:=w.heap.size) (ok:=fun k_=>((((((some k_≠(.slice Ao28 t251.length co28:Value).ownBlock∧some k_≠(.slice Ao23 t242.length co23:Value).ownBlock)∧some k_≠(.slice Ao24 t245.length co24:Value).ownBlock)∧some k_≠(.slice Ao36 t261.length co36:Value).ownBlock)∧some k_≠(.slice Ao40 t264.length co40:Value).ownBlock)∧some k_≠(.slice Ao44 t271.length co44:Value).ownBlock)∧some k_≠(.slice Ao49 t274.length co49:Value).ownBlock)) (n:=t254.length) (c:=co31) ?_).2.2;exact (by (with_reducible repeat (first|apply rA|apply rN|apply rD));exact (rM (rF (p:=⟨Bf,2,none⟩) (rF (p:=⟨Bf,1,none⟩) (rF (p:=⟨Bf,0,none⟩) (rT Bz.out Be.out (by decide)) (fun _ hk=>hk.2) (.slice Ao44 t271.length co44)) (fun _ hk=>hk.2) (.slice Ao49 t274.length co49)) (fun _ hk=>hk.2) (.slice Ao50 t277.length co50)) (fun _ h_=>h_.1))));(case side10=>exact (rR Bz.out).2.1);(case side11=>refine (rR (e:=3) (base:=w.heap.size) (ok:=fun k_=>(((True∧some k_≠(.slice Ao25 t248.length co25:Value).ownBlock)∧some k_≠(.slice Ao41 t267.length co41:Value).ownBlock)∧some k_≠(.slice Ao50 t277.length co50:Value).ownBlock)) (n:=t257.length) (c:=co32) ?_).2.2;exact (by (with_reducible repeat (first|apply rA|apply rN|apply rD));exact (rM (rF (p:=⟨Bf,2,none⟩) (rF (p:=⟨Bf,1,none⟩) (rF (p:=⟨Bf,0,none⟩) (rT BB.out Be.out (by decide)) (fun _ hk=>hk.2) (.slice Ao44 t271.length co44)) (fun _ hk=>hk.2) (.slice Ao49 t274.length co49)) (fun _ hk=>hk.2) (.slice Ao50 t277.length co50)) (fun _ h_=>h_.1))));(case side12=>exact (rR BB.out).2.1);rintro e w52 ⟨rfl,hb⟩;refine ⟨_,rfl,?_⟩;have n0_:=Am (rB (by (with_reducible repeat (first|apply rA|apply rN|apply rD));exact (rM (rF (p:=⟨Bf,2,none⟩) (rF (p:=⟨Bf,1,none⟩) (rF (p:=⟨Bf,0,none⟩) (rT Bw.out Be.out (by decide)) (fun _ hk=>hk.2) (.slice Ao44 t271.length co44)) (fun _ hk=>hk.2) (.slice Ao49 t274.length co49)) (fun _ hk=>hk.2) (.slice Ao50 t277.length co50)) (fun _ h_=>h_.1))) hb);have n1_:=Am (rB (by (with_reducible repeat (first|apply rA|apply rN|apply rD));exact (rM (rF (p:=⟨Bf,2,none⟩) (rF (p:=⟨Bf,1,none⟩) (rF (p:=⟨Bf,0,none⟩) (rT Bx.out Be.out (by decide)) (fun _ hk=>hk.2) (.slice Ao44 t271.length co44)) (fun _ hk=>hk.2) (.slice Ao49 t274.length co49)) (fun _ hk=>hk.2) (.slice Ao50 t277.length co50)) (fun _ h_=>h_.1))) hb);have n2_:=Am (rB (by (with_reducible repeat (first|apply rA|apply rN|apply rD));exact (rM (rF (p:=⟨Bf,2,none⟩) (rF (p:=⟨Bf,1,none⟩) (rF (p:=⟨Bf,0,none⟩) (rT BA.out Be.out (by decide)) (fun _ hk=>hk.2) (.slice Ao44 t271.length co44)) (fun _ hk=>hk.2) (.slice Ao49 t274.length co49)) (fun _ hk=>hk.2) (.slice Ao50 t277.length co50)) (fun _ h_=>h_.1))) hb);have n3_:=Am (rB (by (with_reducible repeat (first|apply rA|apply rN|apply rD));exact (rM (rF (p:=⟨Bf,2,none⟩) (rF (p:=⟨Bf,1,none⟩) (rF (p:=⟨Bf,0,none⟩) (rT By.out Be.out (by decide)) (fun _ hk=>hk.2) (.slice Ao44 t271.length co44)) (fun _ hk=>hk.2) (.slice Ao49 t274.length co49)) (fun _ hk=>hk.2) (.slice Ao50 t277.length co50)) (fun _ h_=>h_.1))) hb);have n4_:=Am (rB (by (with_reducible repeat (first|apply rA|apply rN|apply rD));exact (rM (rF (p:=⟨Bf,2,none⟩) (rF (p:=⟨Bf,1,none⟩) (rF (p:=⟨Bf,0,none⟩) (rT Bz.out Be.out (by decide)) (fun _ hk=>hk.2) (.slice Ao44 t271.length co44)) (fun _ hk=>hk.2) (.slice Ao49 t274.length co49)) (fun _ hk=>hk.2) (.slice Ao50 t277.length co50)) (fun _ h_=>h_.1))) hb);have n5_:=Am (rB (by (with_reducible repeat (first|apply rA|apply rN|apply rD));exact (rM (rF (p:=⟨Bf,2,none⟩) (rF (p:=⟨Bf,1,none⟩) (rF (p:=⟨Bf,0,none⟩) (rT BB.out Be.out (by decide)) (fun _ hk=>hk.2) (.slice Ao44 t271.length co44)) (fun _ hk=>hk.2) (.slice Ao49 t274.length co49)) (fun _ hk=>hk.2) (.slice Ao50 t277.length co50)) (fun _ h_=>h_.1))) hb);have n6_:=Am (rB (by (with_reducible repeat (first|apply rA|apply rN|apply rD));exact (rM (rF (p:=⟨Bf,2,none⟩) (rF (p:=⟨Bf,1,none⟩) (rF (p:=⟨Bf,0,none⟩) (rT Bu.out Be.out (by decide)) (fun _ hk=>hk.2) (.slice Ao44 t271.length co44)) (fun _ hk=>hk.2) (.slice Ao49 t274.length co49)) (fun _ hk=>hk.2) (.slice Ao50 t277.length co50)) (fun _ h_=>h_.1))) hb);have n7_:=Am (rB (by (with_reducible repeat (first|apply rA|apply rN|apply rD));exact (rM (rF (p:=⟨Bf,2,none⟩) (rF (p:=⟨Bf,1,none⟩) (rF (p:=⟨Bf,0,none⟩) (rT Bv.out Be.out (by decide)) (fun _ hk=>hk.2) (.slice Ao44 t271.length co44)) (fun _ hk=>hk.2) (.slice Ao49 t274.length co49)) (fun _ hk=>hk.2) (.slice Ao50 t277.length co50)) (fun _ h_=>h_.1))) hb);have n8_:=Am (rB (by (with_reducible repeat (first|apply rA|apply rN|apply rD));exact (rM (rF (p:=⟨Bf,2,none⟩) (rF (p:=⟨Bf,1,none⟩) (rF (p:=⟨Bf,0,none⟩) (rT Bs.out Be.out (by decide)) (fun _ hk=>hk.2) (.slice Ao44 t271.length co44)) (fun _ hk=>hk.2) (.slice Ao49 t274.length co49)) (fun _ hk=>hk.2) (.slice Ao50 t277.length co50)) (fun _ h_=>h_.1))) hb);have n9_:=Am (rB (by (with_reducible repeat (first|apply rA|apply rN|apply rD));exact (rM (rF (p:=⟨Bf,2,none⟩) (rF (p:=⟨Bf,1,none⟩) (rF (p:=⟨Bf,0,none⟩) (rT BF.out Be.out (by decide)) (fun _ hk=>hk.2) (.slice Ao44 t271.length co44)) (fun _ hk=>hk.2) (.slice Ao49 t274.length co49)) (fun _ hk=>hk.2) (.slice Ao50 t277.length co50)) (fun _ h_=>h_.1))) hb);have n10_:=Am (rB (by (with_reducible repeat (first|apply rA|apply rN|apply rD));exact (rM (rF (p:=⟨Bf,2,none⟩) (rF (p:=⟨Bf,1,none⟩) (rF (p:=⟨Bf,0,none⟩) (rT BG.out Be.out (by decide)) (fun _ hk=>hk.2) (.slice Ao44 t271.length co44)) (fun _ hk=>hk.2) (.slice Ao49 t274.length co49)) (fun _ hk=>hk.2) (.slice Ao50 t277.length co50)) (fun _ h_=>h_.1))) hb);have n11_:=Am (rB (by (with_reducible repeat (first|apply rA|apply rN|apply rD));exact (rM (rF (p:=⟨Bf,2,none⟩) (rF (p:=⟨Bf,1,none⟩) (rF (p:=⟨Bf,0,none⟩) (rT BH.out Be.out (by decide)) (fun _ hk=>hk.2) (.slice Ao44 t271.length co44)) (fun _ hk=>hk.2) (.slice Ao49 t274.length co49)) (fun _ hk=>hk.2) (.slice Ao50 t277.length co50)) (fun _ h_=>h_.1))) hb);have n12_:=Am (bB (g:=Bl) (o:=.cells #[.slice A0_0 l0_0.length c0_0,.slice A0_1 l0_1.length c0_1,.slice A0_2 l0_2.length c0_2] 25 (0,0)) (by (with_reducible repeat (first|refine bN ?_ _|refine bD ?_|refine bA ?_ _|refine bE ?_ BU.out _));exact Ba.out) hb);have n13_:=Am (bB (g:=Bg) (o:=.cells #[.slice Ao28 t251.length co28,.slice Ao31 t254.length co31,.slice Ao32 t257.length co32] 27 (0,0)) (by (with_reducible repeat (first|refine bN ?_ _|refine bD ?_|refine bA ?_ _|refine bE ?_ BV.out _));exact Bc.out) hb);have n14_:=Am (bB (g:=Bb) (o:=.cells #[.slice Ao36 t261.length co36,.slice Ao40 t264.length co40,.slice Ao41 t267.length co41] 27 (0,0)) (by (with_reducible repeat (first|refine bN ?_ _|refine bD ?_|refine bA ?_ _|refine bE ?_ BW.out _));exact Bd.out) hb);have n15_:=Am (bB (g:=Bf) (o:=.cells #[.slice Ao44 t271.length co44,.slice Ao49 t274.length co49,.slice Ao50 t277.length co50] 27 (0,0)) (by (with_reducible repeat (first|refine bN ?_ _|refine bD ?_|refine bA ?_ _));refine bT (cs:=#[.slice Ao44 t271.length co44,.slice Ao49 t274.length co49,.slice none 0 0]) ?_ 2 _ rfl;(with_reducible repeat (first|refine bN ?_ _|refine bD ?_|refine bA ?_ _));refine bT (cs:=#[.slice Ao44 t271.length co44,.slice none 0 0,.slice none 0 0]) ?_ 1 _ rfl;(with_reducible repeat (first|refine bN ?_ _|refine bD ?_|refine bA ?_ _));refine bT (cs:=#[.slice none 0 0,.slice none 0 0,.slice none 0 0]) ?_ 0 _ rfl;(with_reducible repeat (first|refine bN ?_ _|refine bD ?_|refine bA ?_ _));exact Be.out) hb);have n16_:=Am (bP (by repeat (first|(with_reducible first|exact HB.out|apply oA|apply pN|apply o1|refine bS ?_ Bm.out|refine bS ?_ BC.out|refine bS ?_ BD.out|refine bS ?_ BI.out)|exact HB.out)) hb);clear Bw Bx BA By Bz BB Bu Bv Bs BF BG BH Ba Bc Bd Be HB;revert n0_ n1_ n2_ n3_ n4_ n5_ n6_ n7_ n8_ n9_ n10_ n11_ n12_ n13_ n14_ n15_ n16_;intro Bw Bx BA By Bz BB Bu Bv Bs BF BG BH Ba Bc Bd Be HB;(try clear hb);(try clear hb2);(try clear hk);(try clear hi)))
 have n0_:=Am (rD Bw.out)
 have n1_:=Am (rD Bx.out)
 have n2_:=Am (rD BA.out)
 have n3_:=Am (rD By.out)
 have n4_:=Am (rD Bz.out)
 have n5_:=Am (rD BB.out)
 have n6_:=Am (rD Bu.out)
 have n7_:=Am (rD Bv.out)
 have n8_:=Am (rD Bs.out)
 have n9_:=Am (rD BF.out)
 have n10_:=Am (rD BG.out)
 have n11_:=Am (rD BH.out)
 have n12_:=Am (bD Ba.out)
 have n13_:=Am (bD Bc.out)
 have n14_:=Am (bD Bd.out)
 have n15_:=Am (bD Be.out)
 have n16_:=Am (o1 HB.out)
 clear Bw
 clear Bx
 clear BA
 clear By
 clear Bz
 clear BB
 clear Bu
 clear Bv
 clear Bs
 clear BF
 clear BG
 clear BH
 clear Ba
 clear Bc
 clear Bd
 clear Be
 clear HB
 have Bw:=n0_
 have Bx:=n1_
 have BA:=n2_
 have By:=n3_
 have Bz:=n4_
 have BB:=n5_
 have Bu:=n6_
 have Bv:=n7_
 have Bs:=n8_
 have BF:=n9_
 have BG:=n10_
 have BH:=n11_
 have Ba:=n12_
 have Bc:=n13_
 have Bd:=n14_
 have Be:=n15_
 have HB:=n16_
 clear n0_ n1_ n2_ n3_ n4_ n5_ n6_ n7_ n8_ n9_ n10_ n11_ n12_ n13_ n14_ n15_ n16_
 refine start_ (n:=5) (S:=fun w'=>w'.cell? ⟨Bb,0,none⟩=some (.slice Ao36 t261.length co36)∧w'.cell? ⟨Bb,1,none⟩=some (.slice Ao40 t264.length co40)∧w'.cell? ⟨Bb,2,none⟩=some (.slice Ao41 t267.length co41)∧w'.cell? ⟨Bl,0,none⟩=some (.slice A0_0 l0_0.length c0_0)∧w'.cell? ⟨Bl,1,none⟩=some (.slice A0_1 l0_1.length c0_1)∧w'.cell? ⟨Bl,2,none⟩=some (.slice A0_2 l0_2.length c0_2)) (ds:=[]) #[false,false,false,false,false] (by kernel_rfl) rfl rfl ⟨(bC Bd.out 0).trans rfl,(bC Bd.out 1).trans rfl,(bC Bd.out 2).trans rfl,(bC Ba.out 0).trans rfl,(bC Ba.out 1).trans rfl,(bC Ba.out 2).trans rfl⟩ (fun hHeld=>?_)
 generalize w52.drew=w53 at Bw Bx BA By Bz BB Bu Bv Bs BF BG BH Ba Bc Bd Be HB hHeld ⊢
 refine take_ (i:=0) (N:=some 27) (v:=?_) (a':=?_) #[true,false,false,false,false] rfl rfl (by kernel_rfl) (fun _ _ _ h=>h) (Or.inl ⟨by rfl,?_⟩) hHeld ?_ ?_
 rotate_left;(rintro w' ⟨s0,s1,s2,s3,s4,s5⟩;go_simp;with_reducible rfl)
 rotate_left;(simp only [Act.put,lA,lZ,lS,iw,jw];rfl)
 refine take_ (i:=1) (N:=some 28) (v:=?_) (a':=?_) #[true,true,false,false,false] rfl rfl (by kernel_rfl) (fun _ _ _ h=>h) (Or.inl ⟨by rfl,?_⟩) hHeld ?_ ?_
 rotate_left;(rintro w' ⟨s0,s1,s2,s3,s4,s5⟩;go_simp;with_reducible rfl)
 rotate_left;(simp only [Act.put,lA,lZ,lS,iw,jw];rfl)
 refine one_ (i:=2) (N:=some 29) #[true,true,true,false,false] rfl rfl (by kernel_rfl) (by decide) (fun K hK=>?_)
 refine goes_ Try.func15 (by kernel_rfl) rfl #[.agg #[.slice A0_0 l0_0.length c0_0,.slice A0_1 l0_1.length c0_1,.slice A0_2 l0_2.length c0_2]] (by rfl) rfl rfl (by (try simp only [lM,lC,lN]);first|done|rfl|(simp only [lD,lT];rfl)) ?_
 with_reducible refine (laws_toSigs.calls k _ _ l0_0 _ _ l0_1 _ _ l0_2 t282 t285 t288 _ ?side1 ?side2 ?side3 ?side4 ?side5 ?side6 A13.out).mono ?_
 (case side1=>exact cL (cB HR0_0.out HB.out))
 (case side2=>exact HC0_0.out)
 (case side3=>exact cL (cB HR0_1.out HB.out))
 (case side4=>exact HC0_1.out)
 (case side5=>exact cL (cB HR0_2.out HB.out))
 (case side6=>exact HC0_2.out)
 rintro e w54 ⟨v283,v286,v289,rfl,ho0,ho1,ho2,hb⟩
 refine ⟨_,rfl,?_⟩
 have n0_:=Am (rM (rJ (rJ (rK (rL Bw.out) hb) (rZ ho0)) (rZ ho1)) (fun _ h_=>h_.1))
 have n1_:=Am (rM (rJ (rJ (rK (rL Bx.out) hb) (rZ ho0)) (rZ ho1)) (fun _ h_=>h_.1))
 have n2_:=Am (rX (rL BA.out) (rZ ho2) hb)
 have n3_:=Am (rM (rJ (rJ (rK (rL By.out) hb) (rZ ho0)) (rZ ho1)) (fun _ h_=>h_.1))
 have n4_:=Am (rM (rJ (rJ (rK (rL Bz.out) hb) (rZ ho0)) (rZ ho1)) (fun _ h_=>h_.1))
 have n5_:=Am (rX (rL BB.out) (rZ ho2) hb)
 have n6_:=Am (rM (rJ (rJ (rK (rL Bu.out) hb) (rZ ho0)) (rZ ho1)) (fun _ h_=>h_.1))
 have n7_:=Am (rM (rJ (rJ (rK (rL Bv.out) hb) (rZ ho0)) (rZ ho1)) (fun _ h_=>h_.1))
 have n8_:=Am (rX (rL Bs.out) (rZ ho2) hb)
 have n9_:=Am (rM (rJ (rJ (rK (rL BF.out) hb) (rZ ho0)) (rZ ho1)) (fun _ h_=>h_.1))
 have n10_:=Am (rM (rJ (rJ (rK (rL BG.out) hb) (rZ ho0)) (rZ ho1)) (fun _ h_=>h_.1))
 have n11_:=Am (rX (rL BH.out) (rZ ho2) hb)
 have n12_:=Am (rW (rQ (rQ (rQ (rQ (rQ (rQ (rQ (rQ ho0 (rI (rL Bw.out))) (rI (rL Bx.out))) (rI (rL By.out))) (rI (rL Bz.out))) (rI (rL Bu.out))) (rI (rL Bv.out))) (rI (rL BF.out))) (rI (rL BG.out))) (bZ (by repeat (first|(with_reducible first|exact HB.out|apply oA|apply pN|apply o1|refine bS ?_ Bm.out|refine bS ?_ BC.out|refine bS ?_ BD.out|refine bS ?_ BI.out)|exact HB.out))))
 have n13_:=Am (rW (rQ (rQ (rQ (rQ (rQ (rQ (rQ (rQ ho1 (rI (rL Bw.out))) (rI (rL Bx.out))) (rI (rL By.out))) (rI (rL Bz.out))) (rI (rL Bu.out))) (rI (rL Bv.out))) (rI (rL BF.out))) (rI (rL BG.out))) (bZ (by repeat (first|(with_reducible first|exact HB.out|apply oA|apply pN|apply o1|refine bS ?_ Bm.out|refine bS ?_ BC.out|refine bS ?_ BD.out|refine bS ?_ BI.out)|exact HB.out))))
 have n14_:=Am (rW (rQ (rQ (rQ (rQ ho2 (rI (rL BA.out))) (rI (rL BB.out))) (rI (rL Bs.out))) (rI (rL BH.out))) (bZ (by repeat (first|(with_reducible first|exact HB.out|apply oA|apply pN|apply o1|refine bS ?_ Bm.out|refine bS ?_ BC.out|refine bS ?_ BD.out|refine bS ?_ BI.out)|exact HB.out))))
 have n15_:=Am (bX Ba.out hb)
 have n16_:=Am (bX Bc.out hb)
 have n17_:=Am (bX Bd.out hb)
 have n18_:=Am (bX Be.out hb)
 have n19_:=Am (bP (by repeat (first|(with_reducible first|exact HB.out|apply oA|apply pN|apply o1|refine bS ?_ Bm.out|refine bS ?_ BC.out|refine bS ?_ BD.out|refine bS ?_ BI.out)|exact HB.out)) hb)
 clear Bw
 clear Bx
 clear BA
 clear By
 clear Bz
 clear BB
 clear Bu
 clear Bv
 clear Bs
 clear BF
 clear BG
 clear BH
 clear Ba
 clear Bc
 clear Bd
 clear Be
 clear HB
 have Bw:=n0_
 have Bx:=n1_
 have BA:=n2_
 have By:=n3_
 have Bz:=n4_
 have BB:=n5_
 have Bu:=n6_
 have Bv:=n7_
 have Bs:=n8_
 have BF:=n9_
 have BG:=n10_
 have BH:=n11_
 have BM:=n12_
 have BN:=n13_
 have BO:=n14_
 have Ba:=n15_
 have Bc:=n16_
 have Bd:=n17_
 have Be:=n18_
 have HB:=n19_
 clear n0_ n1_ n2_ n3_ n4_ n5_ n6_ n7_ n8_ n9_ n10_ n11_ n12_ n13_ n14_ n15_ n16_ n17_ n18_ n19_
 (try clear hb)
 (try clear hb2)
 (try clear hk)
 (try clear hi)
 (try clear ho0)
 (try clear ho1)
 (try clear ho2)
 obtain ⟨Ao55,co55,eo55⟩:=rC BM.out
 (first|subst eo55|(injection eo55 with f1_ f2_ f3_;have f4_:=f1_.symm;have f5_:=f3_.symm;clear f1_ f2_ f3_;subst f4_;subst f5_))
 obtain ⟨Ao56,co56,eo56⟩:=rC BN.out
 (first|subst eo56|(injection eo56 with f1_ f2_ f3_;have f4_:=f1_.symm;have f5_:=f3_.symm;clear f1_ f2_ f3_;subst f4_;subst f5_))
 obtain ⟨Ao57,co57,eo57⟩:=rC BO.out
 (first|subst eo57|(injection eo57 with f1_ f2_ f3_;have f4_:=f1_.symm;have f5_:=f3_.symm;clear f1_ f2_ f3_;subst f4_;subst f5_))
 refine hK.out _ _ ⟨(bC Bd.out 0).trans rfl,(bC Bd.out 1).trans rfl,(bC Bd.out 2).trans rfl,(bC Ba.out 0).trans rfl,(bC Ba.out 1).trans rfl,(bC Ba.out 2).trans rfl⟩ (fun hHeld=>?_)
 clear hK K
 refine norm_ (by show Act.put _ (some 29) _=_;simp only [Act.put,lA,lZ,lS,iw,jw];rfl) ?_
 refine one_ (i:=3) (N:=some 30) #[true,true,true,true,false] rfl rfl (by kernel_rfl) (by decide) (fun K hK=>?_)
 refine goes_ Try.func17 (by kernel_rfl) rfl #[.agg #[.slice Ao36 t261.length co36,.slice Ao40 t264.length co40,.slice Ao41 t267.length co41],.agg #[.slice Ao55 t282.length co55,.slice Ao56 t285.length co56,.slice Ao57 t288.length co57]] (by rfl) rfl rfl (by (try simp only [lM,lC,lN]);first|done|rfl|(simp only [lD,lT];rfl)) ?_
 with_reducible refine (laws_eqSigs.calls k _ _ t261 _ _ t264 _ _ t267 _ _ t282 _ _ t285 _ _ t288 true _ ?side1 ?side2 ?side3 ?side4 ?side5 ?side6 ?side7 ?side8 ?side9 ?side10 ?side11 ?side12 A14.out).mono ?_
 (case side1=>exact cL (rR Bu.out).2.2)
 (case side2=>exact (rR Bu.out).2.1)
 (case side3=>exact cL (rR Bv.out).2.2)
 (case side4=>exact (rR Bv.out).2.1)
 (case side5=>exact cL (rR Bs.out).2.2)
 (case side6=>exact (rR Bs.out).2.1)
 (case side7=>exact cL (rR BM.out).2.2)
 (case side8=>exact (rR BM.out).2.1)
 (case side9=>exact cL (rR BN.out).2.2)
 (case side10=>exact (rR BN.out).2.1)
 (case side11=>exact cL (rR BO.out).2.2)
 (case side12=>exact (rR BO.out).2.1)
 rintro e w58 ⟨rfl,hb⟩
 refine ⟨_,rfl,?_⟩
 have n0_:=Am (rB (rL Bw.out) hb)
 have n1_:=Am (rB (rL Bx.out) hb)
 have n2_:=Am (rB (rL BA.out) hb)
 have n3_:=Am (rB (rL By.out) hb)
 have n4_:=Am (rB (rL Bz.out) hb)
 have n5_:=Am (rB (rL BB.out) hb)
 have n6_:=Am (rB (rL Bu.out) hb)
 have n7_:=Am (rB (rL Bv.out) hb)
 have n8_:=Am (rB (rL Bs.out) hb)
 have n9_:=Am (rB (rL BF.out) hb)
 have n10_:=Am (rB (rL BG.out) hb)
 have n11_:=Am (rB (rL BH.out) hb)
 have n12_:=Am (rB (rL BM.out) hb)
 have n13_:=Am (rB (rL BN.out) hb)
 have n14_:=Am (rB (rL BO.out) hb)
 have n15_:=Am (bX Ba.out hb)
 have n16_:=Am (bX Bc.out hb)
 have n17_:=Am (bX Bd.out hb)
 have n18_:=Am (bX Be.out hb)
 have n19_:=Am (bP (by repeat (first|(with_reducible first|exact HB.out|apply oA|apply pN|apply o1|refine bS ?_ Bm.out|refine bS ?_ BC.out|refine bS ?_ BD.out|refine bS ?_ BI.out)|exact HB.out)) hb)
 clear Bw
 clear Bx
 clear BA
 clear By
 clear Bz
 clear BB
 clear Bu
 clear Bv
 clear Bs
 clear BF
 clear BG
 clear BH
 clear BM
 clear BN
 clear BO
 clear Ba
 clear Bc
 clear Bd
 clear Be
 clear HB
 have Bw:=n0_
 have Bx:=n1_
 have BA:=n2_
 have By:=n3_
 have Bz:=n4_
 have BB:=n5_
 have Bu:=n6_
 have Bv:=n7_
 have Bs:=n8_
 have BF:=n9_
 have BG:=n10_
 have BH:=n11_
 have BM:=n12_
 have BN:=n13_
 have BO:=n14_
 have Ba:=n15_
 have Bc:=n16_
 have Bd:=n17_
 have Be:=n18_
 have HB:=n19_
 clear n0_ n1_ n2_ n3_ n4_ n5_ n6_ n7_ n8_ n9_ n10_ n11_ n12_ n13_ n14_ n15_ n16_ n17_ n18_ n19_
 (try clear hb)
 (try clear hb2)
 (try clear hk)
 (try clear hi)
 refine hK.out _ _ ⟨(bC Bd.out 0).trans rfl,(bC Bd.out 1).trans rfl,(bC Bd.out 2).trans rfl,(bC Ba.out 0).trans rfl,(bC Ba.out 1).trans rfl,(bC Ba.out 2).trans rfl⟩ (fun hHeld=>?_)
 clear hK K
 refine norm_ (by show Act.put _ (some 30) _=_;simp only [Act.put,lA,lZ,lS,iw,jw];rfl) ?_
 refine pure_ (i:=4) (N:=some 31) (v:=?_) (a':=?_) #[true,true,true,true,true] rfl rfl (by kernel_rfl) (fun _ _ _ h=>h) (Or.inl ⟨by rfl,?_⟩) ?_ ?_
 rotate_left;(intro w';go_simp;with_reducible rfl)
 rotate_left;(simp only [Act.put,lA,lZ,lS,iw,jw];rfl)
 refine done_ (by kernel_rfl) ?_
 have DT:=cz0 Bd.out
 have DU:=cz1 Bd.out
 have DV:=cz2 Bd.out
 have DW:=bF Bd.out 0
 have DX:=bF Bd.out 1
 have DY:=bF Bd.out 2
 go_upto_region 14 with (first|((with_reducible refine gC (f:=18) rfl ?_);refine goesL_ (some 34) rfl rfl Try.func18 (by kernel_rfl) rfl #[.agg #[.slice Ao36 t261.length co36,.slice Ao40 t264.length co40,.slice Ao41 t267.length co41],.int .i64 1] rfl (by (try simp only [lM,lC,lN]);first|done|rfl|(simp only [lD,lT];rfl)) ?_;(with_reducible refine (laws_markSigs.calls k (fun k_=>some k_=(.slice Ao36 t261.length co36:Value).ownBlock) (.slice Ao36 t261.length co36) t261 (fun k_=>some k_=(.slice Ao40 t264.length co40:Value).ownBlock) (.slice Ao40 t264.length co40) t264 (fun k_=>some k_=(.slice Ao41 t267.length co41:Value).ownBlock) (.slice Ao41 t267.length co41) t267 1 t292 t293 t294 t295 w _ ?side1 ?side2 ?side3 ?side4 ?side5 ?side6 A16.out).mono ?_);(case side1=>repeat (first|(with_reducible first|exact HB.out|apply oA|apply pN|apply o1|refine bS ?_ Bm.out|refine bS ?_ BC.out|refine bS ?_ BD.out|refine bS ?_ BI.out)|exact HB.out));(case side2=>exact Kd.R_tight rfl Bu.out);(case side3=>exact fun k_ e_=>(Bu.out.1 k_ e_.symm).1.1.1.1.1.1.1.1);(case side4=>exact Kd.R_tight rfl Bv.out);(case side5=>exact fun k_ e_=>(Bv.out.1 k_ e_.symm).1.1.1.1.1.1.1.1);(case side6=>exact Kd.R_tight rfl Bs.out);rintro e w60 ⟨rfl,hy0,hy1,hy2,hb,hkp⟩;refine ⟨_,rfl,?_⟩;have n0_:=Am (blk_kept (bL Ba.out) hkp (fun hs_=>Or.elim hs_ (fun e_=>(fun e_=>(rE Bu.out Ba.out (by decide)) e_) e_) (fun e_=>Or.elim e_ (fun e_=>(fun e_=>(rE Bv.out Ba.out (by decide)) e_) e_) (fun e_=>(fun e_=>(rE Bs.out Ba.out (by decide)) e_) e_))));have n1_:=Am (rM (ok':=fun k_=>some k_≠(.slice Ao24 t245.length co24:Value).ownBlock∧some k_≠(.slice Ao28 t251.length co28:Value).ownBlock∧some k_≠(.slice Ao31 t254.length co31:Value).ownBlock∧some k_≠(.slice Ao36 t261.length co36:Value).ownBlock∧some k_≠(.slice Ao40 t264.length co40:Value).ownBlock∧some k_≠(.slice Ao44 t271.length co44:Value).ownBlock∧some k_≠(.slice Ao49 t274.length co49:Value).ownBlock∧some k_≠(.slice Ao55 t282.length co55:Value).ownBlock∧some k_≠(.slice Ao56 t285.length co56:Value).ownBlock) (Kd.R_keptB ((Kd.R_apart' Bw.out (rY Bs.out) (by decide))) hkp (fun k_ hk_ hs_=>Or.elim hs_ (fun e_=>(hk_.1.1.1.1.1.1.2) e_) (fun e_=>Or.elim e_ (fun e_=>(hk_.1.1.1.1.1.2) e_) (fun e_=>(hk_.2) e_)))) (fun k_ hk_=>⟨hk_.1.1.1.1.1.1.1.1.1.1,hk_.1.1.1.1.1.1.1.1.1.2,hk_.1.1.1.1.1.1.1.1.2,hk_.1.1.1.1.1.1.1.2,hk_.1.1.1.1.1.1.2,hk_.1.1.1.1.1.2,hk_.1.1.1.1.2,hk_.1.1.1.2,hk_.1.1.2⟩));have n2_:=Am (rM (ok':=fun k_=>some k_≠(.slice Ao23 t242.length co23:Value).ownBlock∧some k_≠(.slice Ao28 t251.length co28:Value).ownBlock∧some k_≠(.slice Ao31 t254.length co31:Value).ownBlock∧some k_≠(.slice Ao36 t261.length co36:Value).ownBlock∧some k_≠(.slice Ao40 t264.length co40:Value).ownBlock∧some k_≠(.slice Ao44 t271.length co44:Value).ownBlock∧some k_≠(.slice Ao49 t274.length co49:Value).ownBlock∧some k_≠(.slice Ao55 t282.length co55:Value).ownBlock∧some k_≠(.slice Ao56 t285.length co56:Value).ownBlock) (Kd.R_keptB ((Kd.R_apart' Bx.out (rY Bs.out) (by decide))) hkp (fun k_ hk_ hs_=>Or.elim hs_ (fun e_=>(hk_.1.1.1.1.1.1.2) e_) (fun e_=>Or.elim e_ (fun e_=>(hk_.1.1.1.1.1.2) e_) (fun e_=>(hk_.2) e_)))) (fun k_ hk_=>⟨hk_.1.1.1.1.1.1.1.1.1.1,hk_.1.1.1.1.1.1.1.1.1.2,hk_.1.1.1.1.1.1.1.1.2,hk_.1.1.1.1.1.1.1.2,hk_.1.1.1.1.1.1.2,hk_.1.1.1.1.1.2,hk_.1.1.1.1.2,hk_.1.1.1.2,hk_.1.1.2⟩));have n3_:=Am (rM (ok':=fun k_=>some k_≠(.slice Ao32 t257.length co32:Value).ownBlock∧some k_≠(.slice Ao41 t267.length co41:Value).ownBlock∧some k_≠(.slice Ao50 t277.length co50:Value).ownBlock∧some k_≠(.slice Ao57 t288.length co57:Value).ownBlock) (Kd.R_keptB ((Kd.R_apart' (Kd.R_apart' BA.out (rY Bu.out) (by decide)) (rY Bv.out) (by decide))) hkp (fun k_ hk_ hs_=>Or.elim hs_ (fun e_=>(hk_.1.2) e_) (fun e_=>Or.elim e_ (fun e_=>(hk_.2) e_) (fun e_=>(hk_.1.1.1.1.2) e_)))) (fun k_ hk_=>⟨hk_.1.1.1.1.1.1.2,hk_.1.1.1.1.1.2,hk_.1.1.1.1.2,hk_.1.1.1.2⟩));have n4_:=Am (rM (ok':=fun k_=>some k_≠(.slice Ao23 t242.length co23:Value).ownBlock∧some k_≠(.slice Ao24 t245.length co24:Value).ownBlock∧some k_≠(.slice Ao31 t254.length co31:Value).ownBlock∧some k_≠(.slice Ao36 t261.length co36:Value).ownBlock∧some k_≠(.slice Ao40 t264.length co40:Value).ownBlock∧some k_≠(.slice Ao44 t271.length co44:Value).ownBlock∧some k_≠(.slice Ao49 t274.length co49:Value).ownBlock∧some k_≠(.slice Ao55 t282.length co55:Value).ownBlock∧some k_≠(.slice Ao56 t285.length co56:Value).ownBlock) (Kd.R_keptB ((Kd.R_apart' By.out (rY Bs.out) (by decide))) hkp (fun k_ hk_ hs_=>Or.elim hs_ (fun e_=>(hk_.1.1.1.1.1.1.2) e_) (fun e_=>Or.elim e_ (fun e_=>(hk_.1.1.1.1.1.2) e_) (fun e_=>(hk_.2) e_)))) (fun k_ hk_=>⟨hk_.1.1.1.1.1.1.1.1.1.2,hk_.1.1.1.1.1.1.1.1.2,hk_.1.1.1.1.1.1.1.1.1.1,hk_.1.1.1.1.1.1.1.2,hk_.1.1.1.1.1.1.2,hk_.1.1.1.1.1.2,hk_.1.1.1.1.2,hk_.1.1.1.2,hk_.1.1.2⟩));have n5_:=Am (rM (ok':=fun k_=>some k_≠(.slice Ao23 t242.length co23:Value).ownBlock∧some k_≠(.slice Ao24 t245.length co24:Value).ownBlock∧some k_≠(.slice Ao28 t251.length co28:Value).ownBlock∧some k_≠(.slice Ao36 t261.length co36:Value).ownBlock∧some k_≠(.slice Ao40 t264.length co40:Value).ownBlock∧some k_≠(.slice Ao44 t271.length co44:Value).ownBlock∧some k_≠(.slice Ao49 t274.length co49:Value).ownBlock∧some k_≠(.slice Ao55 t282.length co55:Value).ownBlock∧some k_≠(.slice Ao56 t285.length co56:Value).ownBlock) (Kd.R_keptB ((Kd.R_apart' Bz.out (rY Bs.out) (by decide))) hkp (fun k_ hk_ hs_=>Or.elim hs_ (fun e_=>(hk_.1.1.1.1.1.1.2) e_) (fun e_=>Or.elim e_ (fun e_=>(hk_.1.1.1.1.1.2) e_) (fun e_=>(hk_.2) e_)))) (fun k_ hk_=>⟨hk_.1.1.1.1.1.1.1.1.1.2,hk_.1.1.1.1.1.1.1.1.2,hk_.1.1.1.1.1.1.1.1.1.1,hk_.1.1.1.1.1.1.1.2,hk_.1.1.1.1.1.1.2,hk_.1.1.1.1.1.2,hk_.1.1.1.1.2,hk_.1.1.1.2,hk_.1.1.2⟩));have n6_:=Am (rM (ok':=fun k_=>some k_≠(.slice Ao25 t248.length co25:Value).ownBlock∧some k_≠(.slice Ao41 t267.length co41:Value).ownBlock∧some k_≠(.slice Ao50 t277.length co50:Value).ownBlock∧some k_≠(.slice Ao57 t288.length co57:Value).ownBlock) (Kd.R_keptB ((Kd.R_apart' (Kd.R_apart' BB.out (rY Bu.out) (by decide)) (rY Bv.out) (by decide))) hkp (fun k_ hk_ hs_=>Or.elim hs_ (fun e_=>(hk_.1.2) e_) (fun e_=>Or.elim e_ (fun e_=>(hk_.2) e_) (fun e_=>(hk_.1.1.1.1.2) e_)))) (fun k_ hk_=>⟨hk_.1.1.1.1.1.1.2,hk_.1.1.1.1.1.2,hk_.1.1.1.1.2,hk_.1.1.1.2⟩));have n7_:=Am (blk_kept (bL Bc.out) hkp (fun hs_=>Or.elim hs_ (fun e_=>(fun e_=>(rE Bu.out Bc.out (by decide)) e_) e_) (fun e_=>Or.elim e_ (fun e_=>(fun e_=>(rE Bv.out Bc.out (by decide)) e_) e_) (fun e_=>(fun e_=>(rE Bs.out Bc.out (by decide)) e_) e_))));have n8_:=Am (Kd.R_reok rfl hy0 (fun k_ e_=>Bu.out.1 k_ e_));have n9_:=Am (Kd.R_reok rfl hy1 (fun k_ e_=>Bv.out.1 k_ e_));have n10_:=Am (Kd.R_reok rfl hy2 (fun k_ e_=>Bs.out.1 k_ e_));have n11_:=Am (blk_kept (bL Bd.out) hkp (fun hs_=>Or.elim hs_ (fun e_=>(fun e_=>(rE Bu.out Bd.out (by decide)) e_) e_) (fun e_=>Or.elim e_ (fun e_=>(fun e_=>(rE Bv.out Bd.out (by decide)) e_) e_) (fun e_=>(fun e_=>(rE Bs.out Bd.out (by decide)) e_) e_))));have n12_:=Am (rM (ok':=fun k_=>some k_≠(.slice Ao23 t242.length co23:Value).ownBlock∧some k_≠(.slice Ao24 t245.length co24:Value).ownBlock∧some k_≠(.slice Ao28 t251.length co28:Value).ownBlock∧some k_≠(.slice Ao31 t254.length co31:Value).ownBlock∧some k_≠(.slice Ao36 t261.length co36:Value).ownBlock∧some k_≠(.slice Ao40 t264.length co40:Value).ownBlock∧some k_≠(.slice Ao49 t274.length co49:Value).ownBlock∧some k_≠(.slice Ao55 t282.length co55:Value).ownBlock∧some k_≠(.slice Ao56 t285.length co56:Value).ownBlock) (Kd.R_keptB ((Kd.R_apart' BF.out (rY Bs.out) (by decide))) hkp (fun k_ hk_ hs_=>Or.elim hs_ (fun e_=>(hk_.1.1.1.1.2) e_) (fun e_=>Or.elim e_ (fun e_=>(hk_.1.1.1.2) e_) (fun e_=>(hk_.2) e_)))) (fun k_ hk_=>⟨hk_.1.1.1.1.1.1.1.1.1.2,hk_.1.1.1.1.1.1.1.1.2,hk_.1.1.1.1.1.1.1.2,hk_.1.1.1.1.1.1.2,hk_.1.1.1.1.1.2,hk_.1.1.1.1.2,hk_.1.1.1.1.1.1.1.1.1.1,hk_.1.1.1.2,hk_.1.1.2⟩));have n13_:=Am (rM (ok':=fun k_=>some k_≠(.slice Ao23 t242.length co23:Value).ownBlock∧some k_≠(.slice Ao24 t245.length co24:Value).ownBlock∧some k_≠(.slice Ao28 t251.length co28:Value).ownBlock∧some k_≠(.slice Ao31 t254.length co31:Value).ownBlock∧some k_≠(.slice Ao36 t261.length co36:Value).ownBlock∧some k_≠(.slice Ao40 t264.length co40:Value).ownBlock∧some k_≠(.slice Ao44 t271.length co44:Value).ownBlock∧some k_≠(.slice Ao55 t282.length co55:Value).ownBlock∧some k_≠(.slice Ao56 t285.length co56:Value).ownBlock) (Kd.R_keptB ((Kd.R_apart' BG.out (rY Bs.out) (by decide))) hkp (fun k_ hk_ hs_=>Or.elim hs_ (fun e_=>(hk_.1.1.1.1.2) e_) (fun e_=>Or.elim e_ (fun e_=>(hk_.1.1.1.2) e_) (fun e_=>(hk_.2) e_)))) (fun k_ hk_=>⟨hk_.1.1.1.1.1.1.1.1.1.2,hk_.1.1.1.1.1.1.1.1.2,hk_.1.1.1.1.1.1.1.2,hk_.1.1.1.1.1.1.2,hk_.1.1.1.1.1.2,hk_.1.1.1.1.2,hk_.1.1.1.1.1.1.1.1.1.1,hk_.1.1.1.2,hk_.1.1.2⟩));have n14_:=Am (rM (ok':=fun k_=>some k_≠(.slice Ao25 t248.length co25:Value).ownBlock∧some k_≠(.slice Ao32 t257.length co32:Value).ownBlock∧some k_≠(.slice Ao41 t267.length co41:Value).ownBlock∧some k_≠(.slice Ao57 t288.length co57:Value).ownBlock) (Kd.R_keptB ((Kd.R_apart' (Kd.R_apart' BH.out (rY Bu.out) (by decide)) (rY Bv.out) (by decide))) hkp (fun k_ hk_ hs_=>Or.elim hs_ (fun e_=>(hk_.1.2) e_) (fun e_=>Or.elim e_ (fun e_=>(hk_.2) e_) (fun e_=>(hk_.1.1.1.2) e_)))) (fun k_ hk_=>⟨hk_.1.1.1.1.1.1.2,hk_.1.1.1.1.1.2,hk_.1.1.1.1.2,hk_.1.1.1.2⟩));have n15_:=Am (blk_kept (bL Be.out) hkp (fun hs_=>Or.elim hs_ (fun e_=>(fun e_=>(rE Bu.out Be.out (by decide)) e_) e_) (fun e_=>Or.elim e_ (fun e_=>(fun e_=>(rE Bv.out Be.out (by decide)) e_) e_) (fun e_=>(fun e_=>(rE Bs.out Be.out (by decide)) e_) e_))));have n16_:=Am (rM (ok':=fun k_=>some k_≠(.slice Ao23 t242.length co23:Value).ownBlock∧some k_≠(.slice Ao24 t245.length co24:Value).ownBlock∧some k_≠(.slice Ao28 t251.length co28:Value).ownBlock∧some k_≠(.slice Ao31 t254.length co31:Value).ownBlock∧some k_≠(.slice Ao36 t261.length co36:Value).ownBlock∧some k_≠(.slice Ao40 t264.length co40:Value).ownBlock∧some k_≠(.slice Ao44 t271.length co44:Value).ownBlock∧some k_≠(.slice Ao49 t274.length co49:Value).ownBlock∧some k_≠(.slice Ao56 t285.length co56:Value).ownBlock) (Kd.R_keptB ((Kd.R_apart' BM.out (rY Bs.out) (by decide))) hkp (fun k_ hk_ hs_=>Or.elim hs_ (fun e_=>(hk_.1.1.1.1.2) e_) (fun e_=>Or.elim e_ (fun e_=>(hk_.1.1.1.2) e_) (fun e_=>(hk_.2) e_)))) (fun k_ hk_=>⟨hk_.1.1.1.1.1.1.1.1.1.2,hk_.1.1.1.1.1.1.1.1.2,hk_.1.1.1.1.1.1.1.2,hk_.1.1.1.1.1.1.2,hk_.1.1.1.1.1.2,hk_.1.1.1.1.2,hk_.1.1.1.2,hk_.1.1.2,hk_.1.1.1.1.1.1.1.1.1.1⟩));have n17_:=Am (rM (ok':=fun k_=>some k_≠(.slice Ao23 t242.length co23:Value).ownBlock∧some k_≠(.slice Ao24 t245.length co24:Value).ownBlock∧some k_≠(.slice Ao28 t251.length co28:Value).ownBlock∧some k_≠(.slice Ao31 t254.length co31:Value).ownBlock∧some k_≠(.slice Ao36 t261.length co36:Value).ownBlock∧some k_≠(.slice Ao40 t264.length co40:Value).ownBlock∧some k_≠(.slice Ao44 t271.length co44:Value).ownBlock∧some k_≠(.slice Ao49 t274.length co49:Value).ownBlock∧some k_≠(.slice Ao55 t282.length co55:Value).ownBlock) (Kd.R_keptB ((Kd.R_apart' BN.out (rY Bs.out) (by decide))) hkp (fun k_ hk_ hs_=>Or.elim hs_ (fun e_=>(hk_.1.1.1.1.2) e_) (fun e_=>Or.elim e_ (fun e_=>(hk_.1.1.1.2) e_) (fun e_=>(hk_.2) e_)))) (fun k_ hk_=>⟨hk_.1.1.1.1.1.1.1.1.1.2,hk_.1.1.1.1.1.1.1.1.2,hk_.1.1.1.1.1.1.1.2,hk_.1.1.1.1.1.1.2,hk_.1.1.1.1.1.2,hk_.1.1.1.1.2,hk_.1.1.1.2,hk_.1.1.2,hk_.1.1.1.1.1.1.1.1.1.1⟩));have n18_:=Am (rM (ok':=fun k_=>some k_≠(.slice Ao25 t248.length co25:Value).ownBlock∧some k_≠(.slice Ao32 t257.length co32:Value).ownBlock∧some k_≠(.slice Ao41 t267.length co41:Value).ownBlock∧some k_≠(.slice Ao50 t277.length co50:Value).ownBlock) (Kd.R_keptB ((Kd.R_apart' (Kd.R_apart' BO.out (rY Bu.out) (by decide)) (rY Bv.out) (by decide))) hkp (fun k_ hk_ hs_=>Or.elim hs_ (fun e_=>(hk_.1.2) e_) (fun e_=>Or.elim e_ (fun e_=>(hk_.2) e_) (fun e_=>(hk_.1.1.1.2) e_)))) (fun k_ hk_=>⟨hk_.1.1.1.1.1.1.2,hk_.1.1.1.1.1.2,hk_.1.1.1.1.2,hk_.1.1.1.2⟩));have n19_:=Am (hb);clear Ba Bw Bx BA By Bz BB Bc Bu Bv Bs Bd BF BG BH Be BM BN BO HB;revert n0_ n1_ n2_ n3_ n4_ n5_ n6_ n7_ n8_ n9_ n10_ n11_ n12_ n13_ n14_ n15_ n16_ n17_ n18_ n19_;intro Ba Bw Bx BA By Bz BB Bc Bu Bv Bs Bd BF BG BH Be BM BN BO HB;(try clear hb);(try clear hkp);(try clear hy0);(try clear hy1);(try clear hy2)))
 (try simp only [Act.put,lA,lZ,lS])
 go_cut [42] (fun v42 wc=>∃ (kq:Nat) (x42_16:Bool),v42=.bool x42_16∧Aside0 (laws_FnExactSigsRun.j0 kq x42_16 l0_0 l0_1 l0_2 t251 t254 t257 t271 t274 t277=some r)∧Aside0 (kq≤k)∧Aside0 (Kd.R Kd.bool 4 wc w.heap.size (fun k_=>some k_≠((.slice Ao31 t254.length co31):Value).ownBlock∧some k_≠((.slice Ao36 t261.length co36):Value).ownBlock∧some k_≠((.slice Ao40 t264.length co40):Value).ownBlock∧some k_≠((.slice Ao44 t271.length co44):Value).ownBlock∧some k_≠((.slice Ao49 t274.length co49):Value).ownBlock) (.slice Ao28 t251.length co28) t251)∧Aside0 (Kd.R Kd.bool 4 wc w.heap.size (fun k_=>some k_≠((.slice Ao28 t251.length co28):Value).ownBlock∧some k_≠((.slice Ao36 t261.length co36):Value).ownBlock∧some k_≠((.slice Ao40 t264.length co40):Value).ownBlock∧some k_≠((.slice Ao44 t271.length co44):Value).ownBlock∧some k_≠((.slice Ao49 t274.length co49):Value).ownBlock) (.slice Ao31 t254.length co31) t254)∧Aside0 (Kd.R (Kd.int .i64) 3 wc w.heap.size (fun k_=>some k_≠((.slice Ao41 t267.length co41):Value).ownBlock∧some k_≠((.slice Ao50 t277.length co50):Value).ownBlock) (.slice Ao32 t257.length co32) t257)∧Aside0 (Kd.R Kd.bool 4 wc w.heap.size (fun k_=>some k_≠((.slice Ao28 t251.length co28):Value).ownBlock∧some k_≠((.slice Ao31 t254.length co31):Value).ownBlock∧some k_≠((.slice Ao40 t264.length co40):Value).ownBlock∧some k_≠((.slice Ao44 t271.length co44):Value).ownBlock∧some k_≠((.slice Ao49 t274.length co49):Value).ownBlock) (.slice Ao36 t261.length co36) t293)∧Aside0 (Kd.R Kd.bool 4 wc w.heap.size (fun k_=>some k_≠((.slice Ao28 t251.length co28):Value).ownBlock∧some k_≠((.slice Ao31 t254.length co31):Value).ownBlock∧some k_≠((.slice Ao36 t261.length co36):Value).ownBlock∧some k_≠((.slice Ao44 t271.length co44):Value).ownBlock∧some k_≠((.slice Ao49 t274.length co49):Value).ownBlock) (.slice Ao40 t264.length co40) t294)∧Aside0 (Kd.R (Kd.int .i64) 3 wc w.heap.size (fun k_=>some k_≠((.slice Ao32 t257.length co32):Value).ownBlock∧some k_≠((.slice Ao50 t277.length co50):Value).ownBlock) (.slice Ao41 t267.length co41) t295)∧Aside0 (Kd.R Kd.bool 4 wc w.heap.size (fun k_=>some k_≠((.slice Ao28 t251.length co28):Value).ownBlock∧some k_≠((.slice Ao31 t254.length co31):Value).ownBlock∧some k_≠((.slice Ao36 t261.length co36):Value).ownBlock∧some k_≠((.slice Ao40 t264.length co40):Value).ownBlock∧some k_≠((.slice Ao49 t274.length co49):Value).ownBlock) (.slice Ao44 t271.length co44) t271)∧Aside0 (Kd.R Kd.bool 4 wc w.heap.size (fun k_=>some k_≠((.slice Ao28 t251.length co28):Value).ownBlock∧some k_≠((.slice Ao31 t254.length co31):Value).ownBlock∧some k_≠((.slice Ao36 t261.length co36):Value).ownBlock∧some k_≠((.slice Ao40 t264.length co40):Value).ownBlock∧some k_≠((.slice Ao44 t271.length co44):Value).ownBlock) (.slice Ao49 t274.length co49) t274)∧Aside0 (Kd.R (Kd.int .i64) 3 wc w.heap.size (fun k_=>some k_≠((.slice Ao32 t257.length co32):Value).ownBlock∧some k_≠((.slice Ao41 t267.length co41):Value).ownBlock) (.slice Ao50 t277.length co50) t277)∧Aside0 (wc.heap[Bl]?=some (.cells #[(.slice A0_0 l0_0.length c0_0),(.slice A0_1 l0_1.length c0_1),(.slice A0_2 l0_2.length c0_2)] 25 (0,0)))∧Aside0 (wc.heap[Bg]?=some (.cells #[(.slice Ao28 t251.length co28),(.slice Ao31 t254.length co31),(.slice Ao32 t257.length co32)] 27 (0,0)))∧Aside0 (wc.heap[Bb]?=some (.cells #[(.slice Ao36 t261.length co36),(.slice Ao40 t264.length co40),(.slice Ao41 t267.length co41)] 27 (0,0)))∧Aside0 (wc.heap[Bf]?=some (.cells #[(.slice Ao44 t271.length co44),(.slice Ao49 t274.length co49),(.slice Ao50 t277.length co50)] 27 (0,0)))∧Aside0 (Below w.heap.size w wc))
 case first =>
  have H:=HC17.out
  clear HC17
  by_cases c61:t292<0
  ·rw [if_pos c61] at H
   have c61b0:decide (t292<0)=true:=dT c61
   clear c61
   (first|rw [c61b0]|(simp only [i64_w,i32_w];rw [c61b0])|skip)
   have H':=Am H
   clear H
   go_wp2
   go_meet
   case rel=>exact ⟨_,(true),(by first|rfl|(simp;done)|(simp [*];done)),H',⟨by first|omega|exact nR _⟩,⟨by (with_reducible repeat (first|apply rA|apply rN|apply rD));exact rM By.out (fun _ hk=>⟨hk.2.2.1,⟨hk.2.2.2.1,⟨hk.2.2.2.2.1,⟨hk.2.2.2.2.2.1,hk.2.2.2.2.2.2.1⟩⟩⟩⟩)⟩,⟨by (with_reducible repeat (first|apply rA|apply rN|apply rD));exact rM Bz.out (fun _ hk=>⟨hk.2.2.1,⟨hk.2.2.2.1,⟨hk.2.2.2.2.1,⟨hk.2.2.2.2.2.1,hk.2.2.2.2.2.2.1⟩⟩⟩⟩)⟩,⟨by (with_reducible repeat (first|apply rA|apply rN|apply rD));exact rM BB.out (fun _ hk=>⟨hk.2.1,hk.2.2.1⟩)⟩,⟨by (with_reducible repeat (first|apply rA|apply rN|apply rD));exact rM Bu.out (fun _ hk=>⟨hk.1.1.1.1.1.2,⟨hk.1.1.1.1.2,⟨hk.1.1.1.1.1.1.1.1,⟨hk.1.1.1.2,hk.1.1.2⟩⟩⟩⟩)⟩,⟨by (with_reducible repeat (first|apply rA|apply rN|apply rD));exact rM Bv.out (fun _ hk=>⟨hk.1.1.1.1.1.2,⟨hk.1.1.1.1.2,⟨hk.1.1.1.1.1.1.1.1,⟨hk.1.1.1.2,hk.1.1.2⟩⟩⟩⟩)⟩,⟨by (with_reducible repeat (first|apply rA|apply rN|apply rD));exact rM Bs.out (fun _ hk=>⟨hk.1.1.2,hk.1.2⟩)⟩,⟨by (with_reducible repeat (first|apply rA|apply rN|apply rD));exact rM BF.out (fun _ hk=>⟨hk.2.2.1,⟨hk.2.2.2.1,⟨hk.2.2.2.2.1,⟨hk.2.2.2.2.2.1,hk.2.2.2.2.2.2.1⟩⟩⟩⟩)⟩,⟨by (with_reducible repeat (first|apply rA|apply rN|apply rD));exact rM BG.out (fun _ hk=>⟨hk.2.2.1,⟨hk.2.2.2.1,⟨hk.2.2.2.2.1,⟨hk.2.2.2.2.2.1,hk.2.2.2.2.2.2.1⟩⟩⟩⟩)⟩,⟨by (with_reducible repeat (first|apply rA|apply rN|apply rD));exact rM BH.out (fun _ hk=>⟨hk.2.1,hk.2.2.1⟩)⟩,⟨by (with_reducible repeat (first|refine bN ?_ _|refine bD ?_|refine bA ?_ _));exact Ba.out⟩,⟨by (with_reducible repeat (first|refine bN ?_ _|refine bD ?_|refine bA ?_ _));exact Bc.out⟩,⟨by (with_reducible repeat (first|refine bN ?_ _|refine bD ?_|refine bA ?_ _));exact Bd.out⟩,⟨by (with_reducible repeat (first|refine bN ?_ _|refine bD ?_|refine bA ?_ _));exact Be.out⟩,⟨by repeat (first|(with_reducible first|exact HB.out|apply oA|apply pN|apply o1|refine bS ?_ Bm.out|refine bS ?_ BC.out|refine bS ?_ BD.out|refine bS ?_ BI.out)|exact HB.out)⟩⟩
  rw [if_neg c61] at H
  have c61b0:decide (t292<0)=false:=dF c61
  clear c61
  (first|rw [c61b0]|(simp only [i64_w,i32_w];rw [c61b0])|skip)
  replace H:=oC H
  obtain ⟨t296,A620,H⟩:=H
  replace H:(laws_FnExactSigsRun.j0 k (!t296) l0_0 l0_1 l0_2 t251 t254 t257 t271 t274 t277)=some r:=H
  have A62:=Am A620
  clear A620
  have H':=Am H
  clear H
  have Gh:=B0.out
  have Gi:=BU.out
  have Gj:=B1.out
  have Gk:=BV.out
  have Gl:=B2.out
  have Gm:=BW.out
  have DZ:=cz0 Be.out
  have D0:=cz1 Be.out
  have D1:=cz2 Be.out
  have D2:=bF Be.out 0
  have D3:=bF Be.out 1
  have D4:=bF Be.out 2
  have Gn:=BX.out
  have Gp:=BS.out
  have Gq:=BT.out
  have Gr:=BZ.out
  have D5:=cz0 Bc.out
  have D6:=cz1 Bc.out
  have D7:=cz2 Bc.out
  have D8:=bF Bc.out 0
  have D9:=bF Bc.out 1
  have Fa:=bF Bc.out 2
  go_wp2_with (first|(go_at_call 17;(with_reducible refine (laws_eqSigs.calls k _ _ t271 _ _ t274 _ _ t277 _ _ t251 _ _ t254 _ _ t257 t296 _ ?side1 ?side2 ?side3 ?side4 ?side5 ?side6 ?side7 ?side8 ?side9 ?side10 ?side11 ?side12 A62.out).mono ?_);(case side1=>exact cL (rR BF.out).2.2);(case side2=>exact (rR BF.out).2.1);(case side3=>exact cL (rR BG.out).2.2);(case side4=>exact (rR BG.out).2.1);(case side5=>exact cL (rR BH.out).2.2);(case side6=>exact (rR BH.out).2.1);(case side7=>exact cL (rR By.out).2.2);(case side8=>exact (rR By.out).2.1);(case side9=>exact cL (rR Bz.out).2.2);(case side10=>exact (rR Bz.out).2.1);(case side11=>exact cL (rR BB.out).2.2);(case side12=>exact (rR BB.out).2.1);rintro e w70 ⟨rfl,hb⟩;have n0_:=Am (rB (rL Bw.out) hb);have n1_:=Am (rB (rL Bx.out) hb);have n2_:=Am (rB (rL BA.out) hb);have n3_:=Am (rB (rL By.out) hb);have n4_:=Am (rB (rL Bz.out) hb);have n5_:=Am (rB (rL BB.out) hb);have n6_:=Am (rB (rL Bu.out) hb);have n7_:=Am (rB (rL Bv.out) hb);have n8_:=Am (rB (rL Bs.out) hb);have n9_:=Am (rB (rL BF.out) hb);have n10_:=Am (rB (rL BG.out) hb);have n11_:=Am (rB (rL BH.out) hb);have n12_:=Am (rB (rL BM.out) hb);have n13_:=Am (rB (rL BN.out) hb);have n14_:=Am (rB (rL BO.out) hb);have n15_:=Am (bX Ba.out hb);have n16_:=Am (bX Bc.out hb);have n17_:=Am (bX Bd.out hb);have n18_:=Am (bX Be.out hb);have n19_:=Am (bP (by repeat (first|(with_reducible first|exact HB.out|apply oA|apply pN|apply o1|refine bS ?_ Bm.out|refine bS ?_ BC.out|refine bS ?_ BD.out|refine bS ?_ BI.out)|exact HB.out)) hb);clear Bw Bx BA By Bz BB Bu Bv Bs BF BG BH BM BN BO Ba Bc Bd Be HB;revert n0_ n1_ n2_ n3_ n4_ n5_ n6_ n7_ n8_ n9_ n10_ n11_ n12_ n13_ n14_ n15_ n16_ n17_ n18_ n19_;intro Bw Bx BA By Bz BB Bu Bv Bs BF BG BH BM BN BO Ba Bc Bd Be HB;(try clear hb);(try clear hb2);(try clear hk);(try clear hi)))
  go_meet
  case rel=>exact ⟨_,(!t296),(by first|rfl|(simp;done)|(simp [*];done)),H',⟨by first|omega|exact nR _⟩,⟨by (with_reducible repeat (first|apply rA|apply rN|apply rD));exact rM By.out (fun _ hk=>⟨hk.2.2.1,⟨hk.2.2.2.1,⟨hk.2.2.2.2.1,⟨hk.2.2.2.2.2.1,hk.2.2.2.2.2.2.1⟩⟩⟩⟩)⟩,⟨by (with_reducible repeat (first|apply rA|apply rN|apply rD));exact rM Bz.out (fun _ hk=>⟨hk.2.2.1,⟨hk.2.2.2.1,⟨hk.2.2.2.2.1,⟨hk.2.2.2.2.2.1,hk.2.2.2.2.2.2.1⟩⟩⟩⟩)⟩,⟨by (with_reducible repeat (first|apply rA|apply rN|apply rD));exact rM BB.out (fun _ hk=>⟨hk.2.1,hk.2.2.1⟩)⟩,⟨by (with_reducible repeat (first|apply rA|apply rN|apply rD));exact rM Bu.out (fun _ hk=>⟨hk.1.1.1.1.1.2,⟨hk.1.1.1.1.2,⟨hk.1.1.1.1.1.1.1.1,⟨hk.1.1.1.2,hk.1.1.2⟩⟩⟩⟩)⟩,⟨by (with_reducible repeat (first|apply rA|apply rN|apply rD));exact rM Bv.out (fun _ hk=>⟨hk.1.1.1.1.1.2,⟨hk.1.1.1.1.2,⟨hk.1.1.1.1.1.1.1.1,⟨hk.1.1.1.2,hk.1.1.2⟩⟩⟩⟩)⟩,⟨by (with_reducible repeat (first|apply rA|apply rN|apply rD));exact rM Bs.out (fun _ hk=>⟨hk.1.1.2,hk.1.2⟩)⟩,⟨by (with_reducible repeat (first|apply rA|apply rN|apply rD));exact rM BF.out (fun _ hk=>⟨hk.2.2.1,⟨hk.2.2.2.1,⟨hk.2.2.2.2.1,⟨hk.2.2.2.2.2.1,hk.2.2.2.2.2.2.1⟩⟩⟩⟩)⟩,⟨by (with_reducible repeat (first|apply rA|apply rN|apply rD));exact rM BG.out (fun _ hk=>⟨hk.2.2.1,⟨hk.2.2.2.1,⟨hk.2.2.2.2.1,⟨hk.2.2.2.2.2.1,hk.2.2.2.2.2.2.1⟩⟩⟩⟩)⟩,⟨by (with_reducible repeat (first|apply rA|apply rN|apply rD));exact rM BH.out (fun _ hk=>⟨hk.2.1,hk.2.2.1⟩)⟩,⟨by (with_reducible repeat (first|refine bN ?_ _|refine bD ?_|refine bA ?_ _));exact Ba.out⟩,⟨by (with_reducible repeat (first|refine bN ?_ _|refine bD ?_|refine bA ?_ _));exact Bc.out⟩,⟨by (with_reducible repeat (first|refine bN ?_ _|refine bD ?_|refine bA ?_ _));exact Bd.out⟩,⟨by (with_reducible repeat (first|refine bN ?_ _|refine bD ?_|refine bA ?_ _));exact Be.out⟩,⟨by repeat (first|(with_reducible first|exact HB.out|apply oA|apply pN|apply o1|refine bS ?_ Bm.out|refine bS ?_ BC.out|refine bS ?_ BD.out|refine bS ?_ BI.out)|exact HB.out)⟩⟩
 case rest =>
  clear HC17
  try clear c1
  try clear c2
  try clear p2
  try clear c3
  try clear c3b0
  try clear c4
  try clear c6
  try clear c12
  try clear c13
  try clear c15
  try clear c17
  try clear c18
  try clear c27
  try clear c28
  try clear c29
  try clear c37
  try clear c38
  try clear c45
  try clear c46
  try clear c47
  try clear c61
  try clear c61b0
  try clear c63
  try clear c64
  try clear c65
  try clear c67
  try clear c68
  try clear Dd
  try clear De
  try clear Df
  try clear Dj
  try clear Dk
  try clear Dl
  try clear Dp
  try clear Dq
  try clear Dr
  try clear Dv
  try clear Dw
  try clear Dx
  try clear DB
  try clear DC
  try clear DD
  try clear DH
  try clear DI
  try clear DJ
  try clear DN
  try clear DO
  try clear DP
  try clear DT
  try clear DU
  try clear DV
  try clear Fb
  try clear Fc
  try clear Fd
  try clear DZ
  try clear D0
  try clear D1
  try clear D5
  try clear D6
  try clear D7
  try clear Dg
  try clear Dh
  try clear Di
  try clear Dm
  try clear Dn
  try clear Do
  try clear Ds
  try clear Dt
  try clear Du
  try clear Dy
  try clear Dz
  try clear DA
  try clear DE
  try clear DF
  try clear DG
  try clear DK
  try clear DL
  try clear DM
  try clear DQ
  try clear DR
  try clear DS
  try clear DW
  try clear DX
  try clear DY
  try clear Fe
  try clear Ff
  try clear Fg
  try clear D2
  try clear D3
  try clear D4
  try clear D8
  try clear D9
  try clear Fa
  obtain ⟨kq,x42_16,rfl,HA,GD,Bn,Bo,Br,Bp,Bq,Bt,Bh,Bi,Bj,Ba,Bc,Bd,Be,HB⟩:=hcut
  have hl271000_16:=(rR Bp.out).1
  rw [hl271000_16] at Bp
  (try simp only [hl271000_16])
  (try simp only [hl271000_16] at Ba)
  (try simp only [hl271000_16] at Bc)
  (try simp only [hl271000_16] at Bd)
  (try simp only [hl271000_16] at Be)
  (try simp only [hl271000_16] at Bn)
  (try simp only [hl271000_16] at Bo)
  (try simp only [hl271000_16] at Br)
  (try simp only [hl271000_16] at Bq)
  (try simp only [hl271000_16] at Bt)
  (try simp only [hl271000_16] at Bh)
  (try simp only [hl271000_16] at Bi)
  (try simp only [hl271000_16] at Bj)
  have hl271001_16:=(rR Bq.out).1
  rw [hl271001_16] at Bq
  (try simp only [hl271001_16])
  (try simp only [hl271001_16] at Ba)
  (try simp only [hl271001_16] at Bc)
  (try simp only [hl271001_16] at Bd)
  (try simp only [hl271001_16] at Be)
  (try simp only [hl271001_16] at Bn)
  (try simp only [hl271001_16] at Bo)
  (try simp only [hl271001_16] at Br)
  (try simp only [hl271001_16] at Bp)
  (try simp only [hl271001_16] at Bt)
  (try simp only [hl271001_16] at Bh)
  (try simp only [hl271001_16] at Bi)
  (try simp only [hl271001_16] at Bj)
  have hl271002_16:=(rR Bt.out).1
  rw [hl271002_16] at Bt
  (try simp only [hl271002_16])
  (try simp only [hl271002_16] at Ba)
  (try simp only [hl271002_16] at Bc)
  (try simp only [hl271002_16] at Bd)
  (try simp only [hl271002_16] at Be)
  (try simp only [hl271002_16] at Bn)
  (try simp only [hl271002_16] at Bo)
  (try simp only [hl271002_16] at Br)
  (try simp only [hl271002_16] at Bp)
  (try simp only [hl271002_16] at Bq)
  (try simp only [hl271002_16] at Bh)
  (try simp only [hl271002_16] at Bi)
  (try simp only [hl271002_16] at Bj)
  cases kq with
 |zero=>exact absurd HA.out (by simp [laws_FnExactSigsRun.j0])
 |succ kj16 =>
   have H:=HA.out
   clear HA
   simp only [laws_FnExactSigsRun.j0] at H
   by_cases c71:x42_16=true
   ·subst c71
    have H1:(some false)=some r:=by rw [if_pos rfl] at H;exact H
    clear H
    have H:=H1
    clear H1
    exact absurd ((oJ H).trans hT_.out) (by decide)
   replace c71:=Bool.eq_false_iff.mpr c71
   subst c71
   have H1:((laws_markSigs.f kj16 t271 t274 t277 1).bind fun bt297=>((laws_heldSigs.f kj16 bt297.2.1 bt297.2.2.1 bt297.2.2.2 1).bind fun t301=>(if t301<0 then (some false) else (if t301=bt297.1 then ((laws_toSigs.f kj16 l0_0 l0_1 l0_2).bind fun bt302=>((impl_SigsRun.f kj16 bt302.1 bt302.2.1 bt302.2.2).bind fun bt311=>((laws_eqSigs.f kj16 bt311.1 bt311.2.1 bt311.2.2 t251 t254 t257).bind fun t321=>(if t321=true then ((laws_heldSigs.f kj16 bt297.2.1 bt297.2.2.1 bt297.2.2.2 1).bind fun t322=>(if t322<0 then (some false) else (if t322=bt297.1 then (some true) else (some false)))) else (some false))))) else (some false)))))=some r:=by rw [if_neg (show ¬ (false=true) by decide)] at H;exact H
   clear H
   have H:=H1
   clear H1
   replace H:=oC H
   obtain ⟨⟨t297,t298,t299,t300⟩,A720,H⟩:=H
   replace H:((laws_heldSigs.f kj16 t298 t299 t300 1).bind fun t301=>(if t301<0 then (some false) else (if t301=t297 then ((laws_toSigs.f kj16 l0_0 l0_1 l0_2).bind fun bt302=>((impl_SigsRun.f kj16 bt302.1 bt302.2.1 bt302.2.2).bind fun bt311=>((laws_eqSigs.f kj16 bt311.1 bt311.2.1 bt311.2.2 t251 t254 t257).bind fun t321=>(if t321=true then ((laws_heldSigs.f kj16 t298 t299 t300 1).bind fun t322=>(if t322<0 then (some false) else (if t322=t297 then (some true) else (some false)))) else (some false))))) else (some false))))=some r:=H
   have A72:=Am A720
   clear A720
   replace H:=oC H
   obtain ⟨t301,A730,H⟩:=H
   replace H:(if t301<0 then (some false) else (if t301=t297 then ((laws_toSigs.f kj16 l0_0 l0_1 l0_2).bind fun bt302=>((impl_SigsRun.f kj16 bt302.1 bt302.2.1 bt302.2.2).bind fun bt311=>((laws_eqSigs.f kj16 bt311.1 bt311.2.1 bt311.2.2 t251 t254 t257).bind fun t321=>(if t321=true then ((laws_heldSigs.f kj16 t298 t299 t300 1).bind fun t322=>(if t322<0 then (some false) else (if t322=t297 then (some true) else (some false)))) else (some false))))) else (some false)))=some r:=H
   have A73:=Am A730
   clear A730
   by_cases c74:t301<0
   ·rw [if_pos c74] at H
    have c74b0:decide (t301<0)=true:=dT c74
    clear c74
    exact absurd ((oJ H).trans hT_.out) (by decide)
   rw [if_neg c74] at H
   have c74b0:decide (t301<0)=false:=dF c74
   clear c74
   by_cases c75:t301=t297
   rotate_left
   ·rw [if_neg c75] at H
    have c75b0:(t301 == t297)=false:=beq_eq_false_iff_ne.mpr c75
    have c75b1:(t301 != t297)=true:=bne_iff_ne.mpr c75
    exact absurd ((oJ H).trans hT_.out) (by decide)
   rw [if_pos c75] at H
   have c75b0:(t301 == t297)=true:=beq_iff_eq.mpr c75
   have c75b1:(t301 != t297)=false:=bne_eq_false_iff_eq.mpr c75
   clear c75
   replace H:=oC H
   obtain ⟨⟨t302,t305,t308⟩,A760,H⟩:=H
   replace H:((impl_SigsRun.f kj16 t302 t305 t308).bind fun bt311=>((laws_eqSigs.f kj16 bt311.1 bt311.2.1 bt311.2.2 t251 t254 t257).bind fun t321=>(if t321=true then ((laws_heldSigs.f kj16 t298 t299 t300 1).bind fun t322=>(if t322<0 then (some false) else (if t322=t297 then (some true) else (some false)))) else (some false))))=some r:=H
   have A76:=Am A760
   clear A760
   replace H:=oC H
   obtain ⟨⟨t311,t314,t317⟩,A770,H⟩:=H
   replace H:((laws_eqSigs.f kj16 t311 t314 t317 t251 t254 t257).bind fun t321=>(if t321=true then ((laws_heldSigs.f kj16 t298 t299 t300 1).bind fun t322=>(if t322<0 then (some false) else (if t322=t297 then (some true) else (some false)))) else (some false)))=some r:=H
   have A77:=Am A770
   clear A770
   replace H:=oC H
   obtain ⟨t321,A780,H⟩:=H
   replace H:(if t321=true then ((laws_heldSigs.f kj16 t298 t299 t300 1).bind fun t322=>(if t322<0 then (some false) else (if t322=t297 then (some true) else (some false)))) else (some false))=some r:=H
   have A78:=Am A780
   clear A780
   by_cases c79:t321=true
   rotate_left
   ·replace c79:=Bool.eq_false_iff.mpr c79
    subst c79
    have H1:(some false)=some r:=by rw [if_neg (show ¬ (false=true) by decide)] at H;exact H
    clear H
    have H:=H1
    clear H1
    exact absurd ((oJ H).trans hT_.out) (by decide)
   subst c79
   have H1:((laws_heldSigs.f kj16 t298 t299 t300 1).bind fun t322=>(if t322<0 then (some false) else (if t322=t297 then (some true) else (some false))))=some r:=by rw [if_pos rfl] at H;exact H
   clear H
   have H:=H1
   clear H1
   replace H:=oC H
   obtain ⟨t322,A800,H⟩:=H
   replace H:(if t322<0 then (some false) else (if t322=t297 then (some true) else (some false)))=some r:=H
   have A80:=Am A800
   clear A800
   by_cases c81:t322<0
   ·rw [if_pos c81] at H
    have c81b0:decide (t322<0)=true:=dT c81
    clear c81
    exact absurd ((oJ H).trans hT_.out) (by decide)
   rw [if_neg c81] at H
   have c81b0:decide (t322<0)=false:=dF c81
   clear c81
   by_cases c82:t322=t297
   rotate_left
   ·rw [if_neg c82] at H
    have c82b0:(t322 == t297)=false:=beq_eq_false_iff_ne.mpr c82
    have c82b1:(t322 != t297)=true:=bne_iff_ne.mpr c82
    exact absurd ((oJ H).trans hT_.out) (by decide)
   rw [if_pos c82] at H
   have c82b0:(t322 == t297)=true:=beq_iff_eq.mpr c82
   have c82b1:(t322 != t297)=false:=bne_eq_false_iff_eq.mpr c82
   clear c82
   obtain rfl:=oJ H
   have Gs:=B0.out
   have Gt:=BU.out
   have Gu:=B1.out
   have Gv:=BV.out
   have Gw:=B2.out
   have Gx:=BW.out
   have FA:=cz0 Be.out
   have FB:=cz1 Be.out
   have FC:=cz2 Be.out
   have FD:=bF Be.out 0
   have FE:=bF Be.out 1
   have FF:=bF Be.out 2
   go_wp2_with (first|((with_reducible refine gC (f:=18) rfl ?_);refine goesL_ (some 45) rfl rfl Try.func18 (by kernel_rfl) rfl #[.agg #[.slice Ao44 t271.length co44,.slice Ao49 t274.length co49,.slice Ao50 t277.length co50],.int .i64 1] rfl (by (try simp only [lM,lC,lN]);first|done|rfl|(simp only [lD,lT];rfl)) ?_;(with_reducible refine (laws_markSigs.calls kj16 (fun k_=>some k_=(.slice Ao44 t271.length co44:Value).ownBlock) (.slice Ao44 t271.length co44) t271 (fun k_=>some k_=(.slice Ao49 t274.length co49:Value).ownBlock) (.slice Ao49 t274.length co49) t274 (fun k_=>some k_=(.slice Ao50 t277.length co50:Value).ownBlock) (.slice Ao50 t277.length co50) t277 1 t297 t298 t299 t300 w _ ?side1 ?side2 ?side3 ?side4 ?side5 ?side6 A72.out).mono ?_);(case side1=>repeat (first|(with_reducible first|exact HB.out|apply oA|apply pN|apply o1|refine bS ?_ Bm.out|refine bS ?_ BC.out|refine bS ?_ BD.out|refine bS ?_ BI.out)|exact HB.out));(case side2=>exact Kd.R_tight rfl Bh.out);(case side3=>exact fun k_ e_=>(Bh.out.1 k_ e_.symm).2.2.2.2);(case side4=>exact Kd.R_tight rfl Bi.out);(case side5=>exact fun k_ e_=>(Bi.out.1 k_ e_.symm).2.2.2.2);(case side6=>exact Kd.R_tight rfl Bj.out);rintro e w87 ⟨rfl,hy0,hy1,hy2,hb,hkp⟩;refine ⟨_,rfl,?_⟩;have n0_:=Am (rM (ok':=fun k_=>some k_≠(.slice Ao31 t254.length co31:Value).ownBlock∧some k_≠(.slice Ao36 t293.length co36:Value).ownBlock∧some k_≠(.slice Ao40 t294.length co40:Value).ownBlock∧some k_≠(.slice Ao44 t271.length co44:Value).ownBlock∧some k_≠(.slice Ao49 t274.length co49:Value).ownBlock) (Kd.R_keptB ((Kd.R_apart' Bn.out (rY Bj.out) (by decide))) hkp (fun k_ hk_ hs_=>Or.elim hs_ (fun e_=>(hk_.1.2.2.2.1) e_) (fun e_=>Or.elim e_ (fun e_=>(hk_.1.2.2.2.2) e_) (fun e_=>(hk_.2) e_)))) (fun k_ hk_=>⟨hk_.1.1.1,hk_.1.1.2.1,hk_.1.1.2.2.1,hk_.1.1.2.2.2.1,hk_.1.1.2.2.2.2⟩));have n1_:=Am (rM (ok':=fun k_=>some k_≠(.slice Ao28 t251.length co28:Value).ownBlock∧some k_≠(.slice Ao36 t293.length co36:Value).ownBlock∧some k_≠(.slice Ao40 t294.length co40:Value).ownBlock∧some k_≠(.slice Ao44 t271.length co44:Value).ownBlock∧some k_≠(.slice Ao49 t274.length co49:Value).ownBlock) (Kd.R_keptB ((Kd.R_apart' Bo.out (rY Bj.out) (by decide))) hkp (fun k_ hk_ hs_=>Or.elim hs_ (fun e_=>(hk_.1.2.2.2.1) e_) (fun e_=>Or.elim e_ (fun e_=>(hk_.1.2.2.2.2) e_) (fun e_=>(hk_.2) e_)))) (fun k_ hk_=>⟨hk_.1.1.1,hk_.1.1.2.1,hk_.1.1.2.2.1,hk_.1.1.2.2.2.1,hk_.1.1.2.2.2.2⟩));have n2_:=Am (rM (ok':=fun k_=>some k_≠(.slice Ao41 t295.length co41:Value).ownBlock∧some k_≠(.slice Ao50 t277.length co50:Value).ownBlock) (Kd.R_keptB ((Kd.R_apart' (Kd.R_apart' Br.out (rY Bh.out) (by decide)) (rY Bi.out) (by decide))) hkp (fun k_ hk_ hs_=>Or.elim hs_ (fun e_=>(hk_.1.2) e_) (fun e_=>Or.elim e_ (fun e_=>(hk_.2) e_) (fun e_=>(hk_.1.1.2) e_)))) (fun k_ hk_=>⟨hk_.1.1.1.1,hk_.1.1.1.2⟩));have n3_:=Am (rM (ok':=fun k_=>some k_≠(.slice Ao28 t251.length co28:Value).ownBlock∧some k_≠(.slice Ao31 t254.length co31:Value).ownBlock∧some k_≠(.slice Ao40 t294.length co40:Value).ownBlock∧some k_≠(.slice Ao44 t271.length co44:Value).ownBlock∧some k_≠(.slice Ao49 t274.length co49:Value).ownBlock) (Kd.R_keptB ((Kd.R_apart' Bp.out (rY Bj.out) (by decide))) hkp (fun k_ hk_ hs_=>Or.elim hs_ (fun e_=>(hk_.1.2.2.2.1) e_) (fun e_=>Or.elim e_ (fun e_=>(hk_.1.2.2.2.2) e_) (fun e_=>(hk_.2) e_)))) (fun k_ hk_=>⟨hk_.1.1.1,hk_.1.1.2.1,hk_.1.1.2.2.1,hk_.1.1.2.2.2.1,hk_.1.1.2.2.2.2⟩));have n4_:=Am (rM (ok':=fun k_=>some k_≠(.slice Ao28 t251.length co28:Value).ownBlock∧some k_≠(.slice Ao31 t254.length co31:Value).ownBlock∧some k_≠(.slice Ao36 t293.length co36:Value).ownBlock∧some k_≠(.slice Ao44 t271.length co44:Value).ownBlock∧some k_≠(.slice Ao49 t274.length co49:Value).ownBlock) (Kd.R_keptB ((Kd.R_apart' Bq.out (rY Bj.out) (by decide))) hkp (fun k_ hk_ hs_=>Or.elim hs_ (fun e_=>(hk_.1.2.2.2.1) e_) (fun e_=>Or.elim e_ (fun e_=>(hk_.1.2.2.2.2) e_) (fun e_=>(hk_.2) e_)))) (fun k_ hk_=>⟨hk_.1.1.1,hk_.1.1.2.1,hk_.1.1.2.2.1,hk_.1.1.2.2.2.1,hk_.1.1.2.2.2.2⟩));have n5_:=Am (rM (ok':=fun k_=>some k_≠(.slice Ao32 t257.length co32:Value).ownBlock∧some k_≠(.slice Ao50 t277.length co50:Value).ownBlock) (Kd.R_keptB ((Kd.R_apart' (Kd.R_apart' Bt.out (rY Bh.out) (by decide)) (rY Bi.out) (by decide))) hkp (fun k_ hk_ hs_=>Or.elim hs_ (fun e_=>(hk_.1.2) e_) (fun e_=>Or.elim e_ (fun e_=>(hk_.2) e_) (fun e_=>(hk_.1.1.2) e_)))) (fun k_ hk_=>⟨hk_.1.1.1.1,hk_.1.1.1.2⟩));have n6_:=Am (Kd.R_reok rfl hy0 (fun k_ e_=>Bh.out.1 k_ e_));have n7_:=Am (Kd.R_reok rfl hy1 (fun k_ e_=>Bi.out.1 k_ e_));have n8_:=Am (Kd.R_reok rfl hy2 (fun k_ e_=>Bj.out.1 k_ e_));have n9_:=Am (blk_kept (bL Ba.out) hkp (fun hs_=>Or.elim hs_ (fun e_=>(fun e_=>(rE Bh.out Ba.out (by decide)) e_) e_) (fun e_=>Or.elim e_ (fun e_=>(fun e_=>(rE Bi.out Ba.out (by decide)) e_) e_) (fun e_=>(fun e_=>(rE Bj.out Ba.out (by decide)) e_) e_))));have n10_:=Am (blk_kept (bL Bc.out) hkp (fun hs_=>Or.elim hs_ (fun e_=>(fun e_=>(rE Bh.out Bc.out (by decide)) e_) e_) (fun e_=>Or.elim e_ (fun e_=>(fun e_=>(rE Bi.out Bc.out (by decide)) e_) e_) (fun e_=>(fun e_=>(rE Bj.out Bc.out (by decide)) e_) e_))));have n11_:=Am (blk_kept (bL Bd.out) hkp (fun hs_=>Or.elim hs_ (fun e_=>(fun e_=>(rE Bh.out Bd.out (by decide)) e_) e_) (fun e_=>Or.elim e_ (fun e_=>(fun e_=>(rE Bi.out Bd.out (by decide)) e_) e_) (fun e_=>(fun e_=>(rE Bj.out Bd.out (by decide)) e_) e_))));have n12_:=Am (blk_kept (bL Be.out) hkp (fun hs_=>Or.elim hs_ (fun e_=>(fun e_=>(rE Bh.out Be.out (by decide)) e_) e_) (fun e_=>Or.elim e_ (fun e_=>(fun e_=>(rE Bi.out Be.out (by decide)) e_) e_) (fun e_=>(fun e_=>(rE Bj.out Be.out (by decide)) e_) e_))));have n13_:=Am (hb);clear Bn Bo Br Bp Bq Bt Bh Bi Bj Ba Bc Bd Be HB;revert n0_ n1_ n2_ n3_ n4_ n5_ n6_ n7_ n8_ n9_ n10_ n11_ n12_ n13_;intro Bn Bo Br Bp Bq Bt Bh Bi Bj Ba Bc Bd Be HB;(try clear hb);(try clear hkp);(try clear hy0);(try clear hy1);(try clear hy2);have FG:=cz0 Be.out;have FH:=cz1 Be.out;have FI:=cz2 Be.out;have FJ:=bF Be.out 0;have FK:=bF Be.out 1;have FL:=bF Be.out 2)|((with_reducible refine gC (f:=19) rfl ?_);refine goesL_ (some 48) rfl rfl Try.func19 (by kernel_rfl) rfl #[.agg #[.slice Ao44 t298.length co44,.slice Ao49 t299.length co49,.slice Ao50 t300.length co50],.int .i64 1] rfl (by (try simp only [lM,lC,lN]);first|done|(rw [show t298.length=t271.length from (rR Bh.out).1.symm,show t299.length=t274.length from (rR Bi.out).1.symm,show t300.length=t277.length from (rR Bj.out).1.symm] <;> rfl)|rfl|(simp only [lD,lT];rfl)) ?_;(with_reducible refine (laws_heldSigs.calls kj16 _ _ t298 _ _ t299 _ _ t300 1 t301 _ ?side1 ?side2 ?side3 ?side4 ?side5 ?side6 A73.out).mono ?_);(case side1=>exact cL (rR Bh.out).2.2);(case side2=>rw [show t298.length=t271.length from (rR Bh.out).1.symm];exact (rR Bh.out).2.1);(case side3=>exact cL (rR Bi.out).2.2);(case side4=>rw [show t299.length=t274.length from (rR Bi.out).1.symm];exact (rR Bi.out).2.1);(case side5=>exact cL (rR Bj.out).2.2);(case side6=>rw [show t300.length=t277.length from (rR Bj.out).1.symm];exact (rR Bj.out).2.1);rintro e w89 ⟨rfl,hb⟩;refine ⟨_,rfl,?_⟩;have n0_:=Am (rB (rL Bn.out) hb);have n1_:=Am (rB (rL Bo.out) hb);have n2_:=Am (rB (rL Br.out) hb);have n3_:=Am (rB (rL Bp.out) hb);have n4_:=Am (rB (rL Bq.out) hb);have n5_:=Am (rB (rL Bt.out) hb);have n6_:=Am (rB (rL Bh.out) hb);have n7_:=Am (rB (rL Bi.out) hb);have n8_:=Am (rB (rL Bj.out) hb);have n9_:=Am (bX Ba.out hb);have n10_:=Am (bX Bc.out hb);have n11_:=Am (bX Bd.out hb);have n12_:=Am (bX Be.out hb);have n13_:=Am (bP (by repeat (first|(with_reducible first|exact HB.out|apply oA|apply pN|apply o1|refine bS ?_ Bm.out|refine bS ?_ BC.out|refine bS ?_ BD.out|refine bS ?_ BI.out)|exact HB.out)) hb);clear Bn Bo Br Bp Bq Bt Bh Bi Bj Ba Bc Bd Be HB;revert n0_ n1_ n2_ n3_ n4_ n5_ n6_ n7_ n8_ n9_ n10_ n11_ n12_ n13_;intro Bn Bo Br Bp Bq Bt Bh Bi Bj Ba Bc Bd Be HB;(try clear hb);(try clear hb2);(try clear hk);(try clear hi);have Gy:=BS.out;have Gz:=BX.out;have GA:=BY.out;have GB:=B3.out;have FM:=cz0 Ba.out;have FN:=cz1 Ba.out;have FO:=cz2 Ba.out;have FP:=bF Ba.out 0;have FQ:=bF Ba.out 1;have FR:=bF Ba.out 2)|((with_reducible refine gC (f:=15) rfl ?_);refine goesL_ (some 55) rfl rfl Try.func15 (by kernel_rfl) rfl #[.agg #[.slice A0_0 l0_0.length c0_0,.slice A0_1 l0_1.length c0_1,.slice A0_2 l0_2.length c0_2]] rfl (by (try simp only [lM,lC,lN]);first|done|rfl|(simp only [lD,lT];rfl)) ?_;(with_reducible refine (laws_toSigs.calls kj16 _ _ l0_0 _ _ l0_1 _ _ l0_2 t302 t305 t308 _ ?side1 ?side2 ?side3 ?side4 ?side5 ?side6 A76.out).mono ?_);(case side1=>exact cL (cB HR0_0.out HB.out));(case side2=>exact HC0_0.out);(case side3=>exact cL (cB HR0_1.out HB.out));(case side4=>exact HC0_1.out);(case side5=>exact cL (cB HR0_2.out HB.out));(case side6=>exact HC0_2.out);rintro e w93 ⟨v303,v306,v309,rfl,ho0,ho1,ho2,hb⟩;refine ⟨_,rfl,?_⟩;have n0_:=Am (rM (rJ (rJ (rK (rL Bn.out) hb) (rZ ho0)) (rZ ho1)) (fun _ h_=>h_.1));have n1_:=Am (rM (rJ (rJ (rK (rL Bo.out) hb) (rZ ho0)) (rZ ho1)) (fun _ h_=>h_.1));have n2_:=Am (rX (rL Br.out) (rZ ho2) hb);have n3_:=Am (rM (rJ (rJ (rK (rL Bp.out) hb) (rZ ho0)) (rZ ho1)) (fun _ h_=>h_.1));have n4_:=Am (rM (rJ (rJ (rK (rL Bq.out) hb) (rZ ho0)) (rZ ho1)) (fun _ h_=>h_.1));have n5_:=Am (rX (rL Bt.out) (rZ ho2) hb);have n6_:=Am (rM (rJ (rJ (rK (rL Bh.out) hb) (rZ ho0)) (rZ ho1)) (fun _ h_=>h_.1));have n7_:=Am (rM (rJ (rJ (rK (rL Bi.out) hb) (rZ ho0)) (rZ ho1)) (fun _ h_=>h_.1));have n8_:=Am (rX (rL Bj.out) (rZ ho2) hb);have n9_:=Am (rW (rQ (rQ (rQ (rQ (rQ (rQ ho0 (rI (rL Bn.out))) (rI (rL Bo.out))) (rI (rL Bp.out))) (rI (rL Bq.out))) (rI (rL Bh.out))) (rI (rL Bi.out))) (bZ (by repeat (first|(with_reducible first|exact HB.out|apply oA|apply pN|apply o1|refine bS ?_ Bm.out|refine bS ?_ BC.out|refine bS ?_ BD.out|refine bS ?_ BI.out)|exact HB.out))));have n10_:=Am (rW (rQ (rQ (rQ (rQ (rQ (rQ ho1 (rI (rL Bn.out))) (rI (rL Bo.out))) (rI (rL Bp.out))) (rI (rL Bq.out))) (rI (rL Bh.out))) (rI (rL Bi.out))) (bZ (by repeat (first|(with_reducible first|exact HB.out|apply oA|apply pN|apply o1|refine bS ?_ Bm.out|refine bS ?_ BC.out|refine bS ?_ BD.out|refine bS ?_ BI.out)|exact HB.out))));have n11_:=Am (rW (rQ (rQ (rQ ho2 (rI (rL Br.out))) (rI (rL Bt.out))) (rI (rL Bj.out))) (bZ (by repeat (first|(with_reducible first|exact HB.out|apply oA|apply pN|apply o1|refine bS ?_ Bm.out|refine bS ?_ BC.out|refine bS ?_ BD.out|refine bS ?_ BI.out)|exact HB.out))));have n12_:=Am (bX Ba.out hb);have n13_:=Am (bX Bc.out hb);have n14_:=Am (bX Bd.out hb);have n15_:=Am (bX Be.out hb);have n16_:=Am (bP (by repeat (first|(with_reducible first|exact HB.out|apply oA|apply pN|apply o1|refine bS ?_ Bm.out|refine bS ?_ BC.out|refine bS ?_ BD.out|refine bS ?_ BI.out)|exact HB.out)) hb);clear Bn Bo Br Bp Bq Bt Bh Bi Bj Ba Bc Bd Be HB;revert n0_ n1_ n2_ n3_ n4_ n5_ n6_ n7_ n8_ n9_ n10_ n11_ n12_ n13_ n14_ n15_ n16_;intro Bn Bo Br Bp Bq Bt Bh Bi Bj BJ BK BL Ba Bc Bd Be HB;(try clear hb);(try clear hb2);(try clear hk);(try clear hi);(try clear ho0);(try clear ho1);(try clear ho2);obtain ⟨Ao94,co94,eo94⟩:=rC BJ.out;subst eo94;obtain ⟨Ao95,co95,eo95⟩:=rC BK.out;subst eo95;obtain ⟨Ao96,co96,eo96⟩:=rC BL.out;subst eo96)|((with_reducible refine gC (f:=28) rfl ?_);refine goesL_ (some 56) rfl rfl Try.func28 (by kernel_rfl) rfl #[.agg #[.slice Ao94 t302.length co94,.slice Ao95 t305.length co95,.slice Ao96 t308.length co96]] rfl (by (try simp only [lM,lC,lN]);first|done|rfl|(simp only [lD,lT];rfl)) ?_;(with_reducible refine (impl_SigsRun.calls kj16 _ _ t302 _ _ t305 _ _ t308 t311 t314 t317 _ ?side1 ?side2 ?side3 ?side4 ?side5 ?side6 A77.out).mono ?_);(case side1=>exact cL (rR BJ.out).2.2);(case side2=>exact (rR BJ.out).2.1);(case side3=>exact cL (rR BK.out).2.2);(case side4=>exact (rR BK.out).2.1);(case side5=>exact cL (rR BL.out).2.2);(case side6=>exact (rR BL.out).2.1);rintro e w97 ⟨v312,v315,v318,rfl,ho0,ho1,ho2,hb⟩;refine ⟨_,rfl,?_⟩;have n0_:=Am (rM (rJ (rJ (rK (rL Bn.out) hb) (rZ ho0)) (rZ ho1)) (fun _ h_=>h_.1));have n1_:=Am (rM (rJ (rJ (rK (rL Bo.out) hb) (rZ ho0)) (rZ ho1)) (fun _ h_=>h_.1));have n2_:=Am (rX (rL Br.out) (rZ ho2) hb);have n3_:=Am (rM (rJ (rJ (rK (rL Bp.out) hb) (rZ ho0)) (rZ ho1)) (fun _ h_=>h_.1));have n4_:=Am (rM (rJ (rJ (rK (rL Bq.out) hb) (rZ ho0)) (rZ ho1)) (fun _ h_=>h_.1));have n5_:=Am (rX (rL Bt.out) (rZ ho2) hb);have n6_:=Am (rM (rJ (rJ (rK (rL Bh.out) hb) (rZ ho0)) (rZ ho1)) (fun _ h_=>h_.1));have n7_:=Am (rM (rJ (rJ (rK (rL Bi.out) hb) (rZ ho0)) (rZ ho1)) (fun _ h_=>h_.1));have n8_:=Am (rX (rL Bj.out) (rZ ho2) hb);have n9_:=Am (rM (rJ (rJ (rK (rL BJ.out) hb) (rZ ho0)) (rZ ho1)) (fun _ h_=>h_.1));have n10_:=Am (rM (rJ (rJ (rK (rL BK.out) hb) (rZ ho0)) (rZ ho1)) (fun _ h_=>h_.1));have n11_:=Am (rX (rL BL.out) (rZ ho2) hb);have n12_:=Am (rW (rQ (rQ (rQ (rQ (rQ (rQ (rQ (rQ ho0 (rI (rL Bn.out))) (rI (rL Bo.out))) (rI (rL Bp.out))) (rI (rL Bq.out))) (rI (rL Bh.out))) (rI (rL Bi.out))) (rI (rL BJ.out))) (rI (rL BK.out))) (bZ (by repeat (first|(with_reducible first|exact HB.out|apply oA|apply pN|apply o1|refine bS ?_ Bm.out|refine bS ?_ BC.out|refine bS ?_ BD.out|refine bS ?_ BI.out)|exact HB.out))));have n13_:=Am (rW (rQ (rQ (rQ (rQ (rQ (rQ (rQ (rQ ho1 (rI (rL Bn.out))) (rI (rL Bo.out))) (rI (rL Bp.out))) (rI (rL Bq.out))) (rI (rL Bh.out))) (rI (rL Bi.out))) (rI (rL BJ.out))) (rI (rL BK.out))) (bZ (by repeat (first|(with_reducible first|exact HB.out|apply oA|apply pN|apply o1|refine bS ?_ Bm.out|refine bS ?_ BC.out|refine bS ?_ BD.out|refine bS ?_ BI.out)|exact HB.out))));have n14_:=Am (rW (rQ (rQ (rQ (rQ ho2 (rI (rL Br.out))) (rI (rL Bt.out))) (rI (rL Bj.out))) (rI (rL BL.out))) (bZ (by repeat (first|(with_reducible first|exact HB.out|apply oA|apply pN|apply o1|refine bS ?_ Bm.out|refine bS ?_ BC.out|refine bS ?_ BD.out|refine bS ?_ BI.out)|exact HB.out))));have n15_:=Am (bX Ba.out hb);have n16_:=Am (bX Bc.out hb);have n17_:=Am (bX Bd.out hb);have n18_:=Am (bX Be.out hb);have n19_:=Am (bP (by repeat (first|(with_reducible first|exact HB.out|apply oA|apply pN|apply o1|refine bS ?_ Bm.out|refine bS ?_ BC.out|refine bS ?_ BD.out|refine bS ?_ BI.out)|exact HB.out)) hb);clear Bn Bo Br Bp Bq Bt Bh Bi Bj BJ BK BL Ba Bc Bd Be HB;revert n0_ n1_ n2_ n3_ n4_ n5_ n6_ n7_ n8_ n9_ n10_ n11_ n12_ n13_ n14_ n15_ n16_ n17_ n18_ n19_;intro Bn Bo Br Bp Bq Bt Bh Bi Bj BJ BK BL BP BQ BR Ba Bc Bd Be HB;(try clear hb);(try clear hb2);(try clear hk);(try clear hi);(try clear ho0);(try clear ho1);(try clear ho2))|((with_reducible refine gD (N:=10) rfl ?_);refine bI ?hg (N:=10) ?hd (cs:=#[.slice none 0 0,.slice none 0 0,.slice none 0 0]) (t:=27) ?hr ?_;(case hd=>rfl);(case hg=>rfl);(case hr=>first|(go_simp;done)|(go_simp;rfl));intro Bk hg w98 hbox hb;have n0_:=Am (rB (rL Bn.out) hb);have n1_:=Am (rB (rL Bo.out) hb);have n2_:=Am (rB (rL Br.out) hb);have n3_:=Am (rB (rL Bp.out) hb);have n4_:=Am (rB (rL Bq.out) hb);have n5_:=Am (rB (rL Bt.out) hb);have n6_:=Am (rB (rL Bh.out) hb);have n7_:=Am (rB (rL Bi.out) hb);have n8_:=Am (rB (rL Bj.out) hb);have n9_:=Am (rB (rL BJ.out) hb);have n10_:=Am (rB (rL BK.out) hb);have n11_:=Am (rB (rL BL.out) hb);have n12_:=Am (rB (rL BP.out) hb);have n13_:=Am (rB (rL BQ.out) hb);have n14_:=Am (rB (rL BR.out) hb);have n15_:=Am (bX Ba.out hb);have n16_:=Am (bX Bc.out hb);have n17_:=Am (bX Bd.out hb);have n18_:=Am (bX Be.out hb);have n19_:=Am (bP (by repeat (first|(with_reducible first|exact HB.out|apply oA|apply pN|apply o1|refine bS ?_ Bm.out|refine bS ?_ BC.out|refine bS ?_ BD.out|refine bS ?_ BI.out)|exact HB.out)) hb);have n20_:=Am (hbox);have n21_:=Am ((by rw [hg];exact (bZ (by repeat (first|(with_reducible first|exact HB.out|apply oA|apply pN|apply o1|refine bS ?_ Bm.out|refine bS ?_ BC.out|refine bS ?_ BD.out|refine bS ?_ BI.out)|exact HB.out))):w.heap.size≤Bk));have n22_:=Am ((by rw [hg];exact (bZ (by repeat (first|(with_reducible first|exact HB.out|apply oA|apply pN|apply o1|refine bS ?_ Bm.out|refine bS ?_ BC.out|refine bS ?_ BD.out|refine bS ?_ BI.out)|exact HB.out))):w.heap.size≤Bk));have n23_:=Am ((nL Ba.out hg));have n24_:=Am ((nG Ba.out hg));have n25_:=Am ((nL Bc.out hg));have n26_:=Am ((nG Bc.out hg));have n27_:=Am ((nL Bd.out hg));have n28_:=Am ((nG Bd.out hg));have n29_:=Am ((nL Be.out hg));have n30_:=Am ((nG Be.out hg));clear Bn Bo Br Bp Bq Bt Bh Bi Bj BJ BK BL BP BQ BR Ba Bc Bd Be HB;revert n0_ n1_ n2_ n3_ n4_ n5_ n6_ n7_ n8_ n9_ n10_ n11_ n12_ n13_ n14_ n15_ n16_ n17_ n18_ n19_ n20_ n21_ n22_ n23_ n24_ n25_ n26_ n27_ n28_ n29_ n30_;intro Bn Bo Br Bp Bq Bt Bh Bi Bj BJ BK BL BP BQ BR Ba Bc Bd Be HB BE GC B8 B4 B9 B5 Da B6 Db B7 Dc;clear hb hbox hg;obtain ⟨Ao99,co99,eo99⟩:=rC BP.out;subst eo99;have FS:=B9.out;have FT:=B4.out;have FU:=Da.out;have FV:=B5.out;have FW:=Db.out;have FX:=B6.out;have FY:=Dc.out;have FZ:=B7.out;have Fi:=cz0 BE.out;have Fj:=cz1 BE.out;have Fk:=cz2 BE.out;have Fl:=bF BE.out 0;have Fm:=bF BE.out 1;have Fn:=bF BE.out 2;obtain ⟨Ao105,co105,eo105⟩:=rC BQ.out;subst eo105;obtain ⟨Ao106,co106,eo106⟩:=rC BR.out;subst eo106;have F0:=BT.out;have F1:=BZ.out;have Fo:=cz0 Bc.out;have Fp:=cz1 Bc.out;have Fq:=cz2 Bc.out;have Fr:=bF Bc.out 0;have Fs:=bF Bc.out 1;have Ft:=bF Bc.out 2)|((with_reducible refine gC (f:=17) rfl ?_);refine goesL_ (some 59) rfl rfl Try.func17 (by kernel_rfl) rfl #[.agg #[.slice Ao99 t311.length co99,.slice Ao105 t314.length co105,.slice Ao106 t317.length co106],.agg #[.slice Ao28 t251.length co28,.slice Ao31 t254.length co31,.slice Ao32 t257.length co32]] rfl (by (try simp only [lM,lC,lN]);first|done|rfl|(simp only [lD,lT];rfl)) ?_;(with_reducible refine (laws_eqSigs.calls kj16 _ _ t311 _ _ t314 _ _ t317 _ _ t251 _ _ t254 _ _ t257 true _ ?side1 ?side2 ?side3 ?side4 ?side5 ?side6 ?side7 ?side8 ?side9 ?side10 ?side11 ?side12 A78.out).mono ?_);(case side1=>refine (rR (e:=4) (base:=w.heap.size) (ok:=fun k_=>((((((((some k_≠(.slice Ao105 t314.length co105:Value).ownBlock∧some k_≠(.slice Ao28 t251.length co28:Value).ownBlock)∧some k_≠(.slice Ao31 t254.length co31:Value).ownBlock)∧some k_≠(.slice Ao36 t293.length co36:Value).ownBlock)∧some k_≠(.slice Ao40 t294.length co40:Value).ownBlock)∧some k_≠(.slice Ao44 t271.length co44:Value).ownBlock)∧some k_≠(.slice Ao49 t274.length co49:Value).ownBlock)∧some k_≠(.slice Ao94 t302.length co94:Value).ownBlock)∧some k_≠(.slice Ao95 t305.length co95:Value).ownBlock)) (n:=t311.length) (c:=co99) ?_).2.2;exact (by (with_reducible repeat (first|apply rA|apply rN|apply rD));exact (rM (rF (p:=⟨Bk,2,none⟩) (rF (p:=⟨Bk,1,none⟩) (rF (p:=⟨Bk,0,none⟩) (rT BP.out BE.out (by decide)) (fun _ hk=>hk.2) (.slice Ao99 t311.length co99)) (fun _ hk=>hk.2) (.slice Ao105 t314.length co105)) (fun _ hk=>hk.2) (.slice Ao106 t317.length co106)) (fun _ h_=>h_.1))));(case side2=>exact (rR BP.out).2.1);(case side3=>refine (rR (e:=4) (base:=w.heap.size) (ok:=fun k_=>((((((((some k_≠(.slice Ao99 t311.length co99:Value).ownBlock∧some k_≠(.slice Ao28 t251.length co28:Value).ownBlock)∧some k_≠(.slice Ao31 t254.length co31:Value).ownBlock)∧some k_≠(.slice Ao36 t293.length co36:Value).ownBlock)∧some k_≠(.slice Ao40 t294.length co40:Value).ownBlock)∧some k_≠(.slice Ao44 t271.length co44:Value).ownBlock)∧some k_≠(.slice Ao49 t274.length co49:Value).ownBlock)∧some k_≠(.slice Ao94 t302.length co94:Value).ownBlock)∧some k_≠(.slice Ao95 t305.length co95:Value).ownBlock)) (n:=t314.length) (c:=co105) ?_).2.2;exact (by (with_reducible repeat (first|apply rA|apply rN|apply rD));exact (rM (rF (p:=⟨Bk,2,none⟩) (rF (p:=⟨Bk,1,none⟩) (rF (p:=⟨Bk,0,none⟩) (rT BQ.out BE.out (by decide)) (fun _ hk=>hk.2) (.slice Ao99 t311.length co99)) (fun _ hk=>hk.2) (.slice Ao105 t314.length co105)) (fun _ hk=>hk.2) (.slice Ao106 t317.length co106)) (fun _ h_=>h_.1))));(case side4=>exact (rR BQ.out).2.1);(case side5=>refine (rR (e:=3) (base:=w.heap.size) (ok:=fun k_=>((((True∧some k_≠(.slice Ao32 t257.length co32:Value).ownBlock)∧some k_≠(.slice Ao41 t295.length co41:Value).ownBlock)∧some k_≠(.slice Ao50 t277.length co50:Value).ownBlock)∧some k_≠(.slice Ao96 t308.length co96:Value).ownBlock)) (n:=t317.length) (c:=co106) ?_).2.2;exact (by (with_reducible repeat (first|apply rA|apply rN|apply rD));exact (rM (rF (p:=⟨Bk,2,none⟩) (rF (p:=⟨Bk,1,none⟩) (rF (p:=⟨Bk,0,none⟩) (rT BR.out BE.out (by decide)) (fun _ hk=>hk.2) (.slice Ao99 t311.length co99)) (fun _ hk=>hk.2) (.slice Ao105 t314.length co105)) (fun _ hk=>hk.2) (.slice Ao106 t317.length co106)) (fun _ h_=>h_.1))));(case side6=>exact (rR BR.out).2.1);(case side7=>refine (rR (e:=4) (base:=w.heap.size) (ok:=fun k_=>(((((some k_≠(.slice Ao31 t254.length co31:Value).ownBlock∧(some k_≠(.slice Ao36 t293.length co36:Value).ownBlock∧(some k_≠(.slice Ao40 t294.length co40:Value).ownBlock∧(some k_≠(.slice Ao44 t271.length co44:Value).ownBlock∧some k_≠(.slice Ao49 t274.length co49:Value).ownBlock))))∧some k_≠(.slice Ao94 t302.length co94:Value).ownBlock)∧some k_≠(.slice Ao95 t305.length co95:Value).ownBlock)∧some k_≠(.slice Ao99 t311.length co99:Value).ownBlock)∧some k_≠(.slice Ao105 t314.length co105:Value).ownBlock)) (n:=t251.length) (c:=co28) ?_).2.2;exact (by (with_reducible repeat (first|apply rA|apply rN|apply rD));exact (rM (rF (p:=⟨Bk,2,none⟩) (rF (p:=⟨Bk,1,none⟩) (rF (p:=⟨Bk,0,none⟩) (rT Bn.out BE.out (by decide)) (fun _ hk=>hk.2) (.slice Ao99 t311.length co99)) (fun _ hk=>hk.2) (.slice Ao105 t314.length co105)) (fun _ hk=>hk.2) (.slice Ao106 t317.length co106)) (fun _ h_=>h_.1))));(case side8=>exact (rR Bn.out).2.1);(case side9=>refine (rR (e:=4) (base:=w.heap.size) (ok:=fun k_=>(((((some k_≠(.slice Ao28 t251.length co28:Value).ownBlock∧(some k_≠(.slice Ao36 t293.length co36:Value).ownBlock∧(some k_≠(.slice Ao40 t294.length co40:Value).ownBlock∧(some k_≠(.slice Ao44 t271.length co44:Value).ownBlock∧some k_≠(.slice Ao49 t274.length co49:Value).ownBlock))))∧some k_≠(.slice Ao94 t302.length co94:Value).ownBlock)∧some k_≠(.slice Ao95 t305.length co95:Value).ownBlock)∧some k_≠(.slice Ao99 t311.length co99:Value).ownBlock)∧some k_≠(.slice Ao105 t314.length co105:Value).ownBlock)) (n:=t254.length) (c:=co31) ?_).2.2;exact (by (with_reducible repeat (first|apply rA|apply rN|apply rD));exact (rM (rF (p:=⟨Bk,2,none⟩) (rF (p:=⟨Bk,1,none⟩) (rF (p:=⟨Bk,0,none⟩) (rT Bo.out BE.out (by decide)) (fun _ hk=>hk.2) (.slice Ao99 t311.length co99)) (fun _ hk=>hk.2) (.slice Ao105 t314.length co105)) (fun _ hk=>hk.2) (.slice Ao106 t317.length co106)) (fun _ h_=>h_.1))));(case side10=>exact (rR Bo.out).2.1);(case side11=>refine (rR (e:=3) (base:=w.heap.size) (ok:=fun k_=>(((some k_≠(.slice Ao41 t295.length co41:Value).ownBlock∧some k_≠(.slice Ao50 t277.length co50:Value).ownBlock)∧some k_≠(.slice Ao96 t308.length co96:Value).ownBlock)∧some k_≠(.slice Ao106 t317.length co106:Value).ownBlock)) (n:=t257.length) (c:=co32) ?_).2.2;exact (by (with_reducible repeat (first|apply rA|apply rN|apply rD));exact (rM (rF (p:=⟨Bk,2,none⟩) (rF (p:=⟨Bk,1,none⟩) (rF (p:=⟨Bk,0,none⟩) (rT Br.out BE.out (by decide)) (fun _ hk=>hk.2) (.slice Ao99 t311.length co99)) (fun _ hk=>hk.2) (.slice Ao105 t314.length co105)) (fun _ hk=>hk.2) (.slice Ao106 t317.length co106)) (fun _ h_=>h_.1))));(case side12=>exact (rR Br.out).2.1);rintro e w109 ⟨rfl,hb⟩;refine ⟨_,rfl,?_⟩;have n0_:=Am (rB (by (with_reducible repeat (first|apply rA|apply rN|apply rD));exact (rM (rF (p:=⟨Bk,2,none⟩) (rF (p:=⟨Bk,1,none⟩) (rF (p:=⟨Bk,0,none⟩) (rT Bn.out BE.out (by decide)) (fun _ hk=>hk.2) (.slice Ao99 t311.length co99)) (fun _ hk=>hk.2) (.slice Ao105 t314.length co105)) (fun _ hk=>hk.2) (.slice Ao106 t317.length co106)) (fun _ h_=>h_.1))) hb);have n1_:=Am (rB (by (with_reducible repeat (first|apply rA|apply rN|apply rD));exact (rM (rF (p:=⟨Bk,2,none⟩) (rF (p:=⟨Bk,1,none⟩) (rF (p:=⟨Bk,0,none⟩) (rT Bo.out BE.out (by decide)) (fun _ hk=>hk.2) (.slice Ao99 t311.length co99)) (fun _ hk=>hk.2) (.slice Ao105 t314.length co105)) (fun _ hk=>hk.2) (.slice Ao106 t317.length co106)) (fun _ h_=>h_.1))) hb);have n2_:=Am (rB (by (with_reducible repeat (first|apply rA|apply rN|apply rD));exact (rM (rF (p:=⟨Bk,2,none⟩) (rF (p:=⟨Bk,1,none⟩) (rF (p:=⟨Bk,0,none⟩) (rT Br.out BE.out (by decide)) (fun _ hk=>hk.2) (.slice Ao99 t311.length co99)) (fun _ hk=>hk.2) (.slice Ao105 t314.length co105)) (fun _ hk=>hk.2) (.slice Ao106 t317.length co106)) (fun _ h_=>h_.1))) hb);have n3_:=Am (rB (by (with_reducible repeat (first|apply rA|apply rN|apply rD));exact (rM (rF (p:=⟨Bk,2,none⟩) (rF (p:=⟨Bk,1,none⟩) (rF (p:=⟨Bk,0,none⟩) (rT Bp.out BE.out (by decide)) (fun _ hk=>hk.2) (.slice Ao99 t311.length co99)) (fun _ hk=>hk.2) (.slice Ao105 t314.length co105)) (fun _ hk=>hk.2) (.slice Ao106 t317.length co106)) (fun _ h_=>h_.1))) hb);have n4_:=Am (rB (by (with_reducible repeat (first|apply rA|apply rN|apply rD));exact (rM (rF (p:=⟨Bk,2,none⟩) (rF (p:=⟨Bk,1,none⟩) (rF (p:=⟨Bk,0,none⟩) (rT Bq.out BE.out (by decide)) (fun _ hk=>hk.2) (.slice Ao99 t311.length co99)) (fun _ hk=>hk.2) (.slice Ao105 t314.length co105)) (fun _ hk=>hk.2) (.slice Ao106 t317.length co106)) (fun _ h_=>h_.1))) hb);have n5_:=Am (rB (by (with_reducible repeat (first|apply rA|apply rN|apply rD));exact (rM (rF (p:=⟨Bk,2,none⟩) (rF (p:=⟨Bk,1,none⟩) (rF (p:=⟨Bk,0,none⟩) (rT Bt.out BE.out (by decide)) (fun _ hk=>hk.2) (.slice Ao99 t311.length co99)) (fun _ hk=>hk.2) (.slice Ao105 t314.length co105)) (fun _ hk=>hk.2) (.slice Ao106 t317.length co106)) (fun _ h_=>h_.1))) hb);have n6_:=Am (rB (by (with_reducible repeat (first|apply rA|apply rN|apply rD));exact (rM (rF (p:=⟨Bk,2,none⟩) (rF (p:=⟨Bk,1,none⟩) (rF (p:=⟨Bk,0,none⟩) (rT Bh.out BE.out (by decide)) (fun _ hk=>hk.2) (.slice Ao99 t311.length co99)) (fun _ hk=>hk.2) (.slice Ao105 t314.length co105)) (fun _ hk=>hk.2) (.slice Ao106 t317.length co106)) (fun _ h_=>h_.1))) hb);have n7_:=Am (rB (by (with_reducible repeat (first|apply rA|apply rN|apply rD));exact (rM (rF (p:=⟨Bk,2,none⟩) (rF (p:=⟨Bk,1,none⟩) (rF (p:=⟨Bk,0,none⟩) (rT Bi.out BE.out (by decide)) (fun _ hk=>hk.2) (.slice Ao99 t311.length co99)) (fun _ hk=>hk.2) (.slice Ao105 t314.length co105)) (fun _ hk=>hk.2) (.slice Ao106 t317.length co106)) (fun _ h_=>h_.1))) hb);have n8_:=Am (rB (by (with_reducible repeat (first|apply rA|apply rN|apply rD));exact (rM (rF (p:=⟨Bk,2,none⟩) (rF (p:=⟨Bk,1,none⟩) (rF (p:=⟨Bk,0,none⟩) (rT Bj.out BE.out (by decide)) (fun _ hk=>hk.2) (.slice Ao99 t311.length co99)) (fun _ hk=>hk.2) (.slice Ao105 t314.length co105)) (fun _ hk=>hk.2) (.slice Ao106 t317.length co106)) (fun _ h_=>h_.1))) hb);have n9_:=Am (rB (by (with_reducible repeat (first|apply rA|apply rN|apply rD));exact (rM (rF (p:=⟨Bk,2,none⟩) (rF (p:=⟨Bk,1,none⟩) (rF (p:=⟨Bk,0,none⟩) (rT BJ.out BE.out (by decide)) (fun _ hk=>hk.2) (.slice Ao99 t311.length co99)) (fun _ hk=>hk.2) (.slice Ao105 t314.length co105)) (fun _ hk=>hk.2) (.slice Ao106 t317.length co106)) (fun _ h_=>h_.1))) hb);have n10_:=Am (rB (by (with_reducible repeat (first|apply rA|apply rN|apply rD));exact (rM (rF (p:=⟨Bk,2,none⟩) (rF (p:=⟨Bk,1,none⟩) (rF (p:=⟨Bk,0,none⟩) (rT BK.out BE.out (by decide)) (fun _ hk=>hk.2) (.slice Ao99 t311.length co99)) (fun _ hk=>hk.2) (.slice Ao105 t314.length co105)) (fun _ hk=>hk.2) (.slice Ao106 t317.length co106)) (fun _ h_=>h_.1))) hb);have n11_:=Am (rB (by (with_reducible repeat (first|apply rA|apply rN|apply rD));exact (rM (rF (p:=⟨Bk,2,none⟩) (rF (p:=⟨Bk,1,none⟩) (rF (p:=⟨Bk,0,none⟩) (rT BL.out BE.out (by decide)) (fun _ hk=>hk.2) (.slice Ao99 t311.length co99)) (fun _ hk=>hk.2) (.slice Ao105 t314.length co105)) (fun _ hk=>hk.2) (.slice Ao106 t317.length co106)) (fun _ h_=>h_.1))) hb);have n12_:=Am (rB (by (with_reducible repeat (first|apply rA|apply rN|apply rD));exact (rM (rF (p:=⟨Bk,2,none⟩) (rF (p:=⟨Bk,1,none⟩) (rF (p:=⟨Bk,0,none⟩) (rT BP.out BE.out (by decide)) (fun _ hk=>hk.2) (.slice Ao99 t311.length co99)) (fun _ hk=>hk.2) (.slice Ao105 t314.length co105)) (fun _ hk=>hk.2) (.slice Ao106 t317.length co106)) (fun _ h_=>h_.1))) hb);have n13_:=Am (rB (by (with_reducible repeat (first|apply rA|apply rN|apply rD));exact (rM (rF (p:=⟨Bk,2,none⟩) (rF (p:=⟨Bk,1,none⟩) (rF (p:=⟨Bk,0,none⟩) (rT BQ.out BE.out (by decide)) (fun _ hk=>hk.2) (.slice Ao99 t311.length co99)) (fun _ hk=>hk.2) (.slice Ao105 t314.length co105)) (fun _ hk=>hk.2) (.slice Ao106 t317.length co106)) (fun _ h_=>h_.1))) hb);have n14_:=Am (rB (by (with_reducible repeat (first|apply rA|apply rN|apply rD));exact (rM (rF (p:=⟨Bk,2,none⟩) (rF (p:=⟨Bk,1,none⟩) (rF (p:=⟨Bk,0,none⟩) (rT BR.out BE.out (by decide)) (fun _ hk=>hk.2) (.slice Ao99 t311.length co99)) (fun _ hk=>hk.2) (.slice Ao105 t314.length co105)) (fun _ hk=>hk.2) (.slice Ao106 t317.length co106)) (fun _ h_=>h_.1))) hb);have n15_:=Am (bB (g:=Bl) (o:=.cells #[.slice A0_0 l0_0.length c0_0,.slice A0_1 l0_1.length c0_1,.slice A0_2 l0_2.length c0_2] 25 (0,0)) (by (with_reducible repeat (first|refine bN ?_ _|refine bD ?_|refine bA ?_ _|refine bE ?_ B4.out _));exact Ba.out) hb);have n16_:=Am (bB (g:=Bg) (o:=.cells #[.slice Ao28 t251.length co28,.slice Ao31 t254.length co31,.slice Ao32 t257.length co32] 27 (0,0)) (by (with_reducible repeat (first|refine bN ?_ _|refine bD ?_|refine bA ?_ _|refine bE ?_ B5.out _));exact Bc.out) hb);have n17_:=Am (bB (g:=Bb) (o:=.cells #[.slice Ao36 t293.length co36,.slice Ao40 t294.length co40,.slice Ao41 t295.length co41] 27 (0,0)) (by (with_reducible repeat (first|refine bN ?_ _|refine bD ?_|refine bA ?_ _|refine bE ?_ B6.out _));exact Bd.out) hb);have n18_:=Am (bB (g:=Bf) (o:=.cells #[.slice Ao44 t271.length co44,.slice Ao49 t274.length co49,.slice Ao50 t277.length co50] 27 (0,0)) (by (with_reducible repeat (first|refine bN ?_ _|refine bD ?_|refine bA ?_ _|refine bE ?_ B7.out _));exact Be.out) hb);have n19_:=Am (bB (g:=Bk) (o:=.cells #[.slice Ao99 t311.length co99,.slice Ao105 t314.length co105,.slice Ao106 t317.length co106] 27 (0,0)) (by (with_reducible repeat (first|refine bN ?_ _|refine bD ?_|refine bA ?_ _));refine bT (cs:=#[.slice Ao99 t311.length co99,.slice Ao105 t314.length co105,.slice none 0 0]) ?_ 2 _ rfl;(with_reducible repeat (first|refine bN ?_ _|refine bD ?_|refine bA ?_ _));refine bT (cs:=#[.slice Ao99 t311.length co99,.slice none 0 0,.slice none 0 0]) ?_ 1 _ rfl;(with_reducible repeat (first|refine bN ?_ _|refine bD ?_|refine bA ?_ _));refine bT (cs:=#[.slice none 0 0,.slice none 0 0,.slice none 0 0]) ?_ 0 _ rfl;(with_reducible repeat (first|refine bN ?_ _|refine bD ?_|refine bA ?_ _));exact BE.out) hb);have n20_:=Am (bP (by repeat (first|(with_reducible first|exact HB.out|apply oA|apply pN|apply o1|refine bS ?_ Bm.out|refine bS ?_ BC.out|refine bS ?_ BD.out|refine bS ?_ BI.out|refine bS ?_ B8.out)|exact HB.out)) hb);clear Bn Bo Br Bp Bq Bt Bh Bi Bj BJ BK BL BP BQ BR Ba Bc Bd Be BE HB;revert n0_ n1_ n2_ n3_ n4_ n5_ n6_ n7_ n8_ n9_ n10_ n11_ n12_ n13_ n14_ n15_ n16_ n17_ n18_ n19_ n20_;intro Bn Bo Br Bp Bq Bt Bh Bi Bj BJ BK BL BP BQ BR Ba Bc Bd Be BE HB;(try clear hb);(try clear hb2);(try clear hk);(try clear hi);have Fu:=cz0 Be.out;have Fv:=cz1 Be.out;have Fw:=cz2 Be.out;have Fx:=bF Be.out 0;have Fy:=bF Be.out 1;have Fz:=bF Be.out 2)|((with_reducible refine gC (f:=19) rfl ?_);refine goesL_ (some 63) rfl rfl Try.func19 (by kernel_rfl) rfl #[.agg #[.slice Ao44 t298.length co44,.slice Ao49 t299.length co49,.slice Ao50 t300.length co50],.int .i64 1] rfl (by (try simp only [lM,lC,lN]);first|done|(rw [show t298.length=t271.length from (rR Bh.out).1.symm,show t299.length=t274.length from (rR Bi.out).1.symm,show t300.length=t277.length from (rR Bj.out).1.symm] <;> rfl)|rfl|(simp only [lD,lT];rfl)) ?_;(with_reducible refine (laws_heldSigs.calls kj16 _ _ t298 _ _ t299 _ _ t300 1 t322 _ ?side1 ?side2 ?side3 ?side4 ?side5 ?side6 A80.out).mono ?_);(case side1=>exact cL (rR Bh.out).2.2);(case side2=>rw [show t298.length=t271.length from (rR Bh.out).1.symm];exact (rR Bh.out).2.1);(case side3=>exact cL (rR Bi.out).2.2);(case side4=>rw [show t299.length=t274.length from (rR Bi.out).1.symm];exact (rR Bi.out).2.1);(case side5=>exact cL (rR Bj.out).2.2);(case side6=>rw [show t300.length=t277.length from (rR Bj.out).1.symm];exact (rR Bj.out).2.1);rintro e w111 ⟨rfl,hb⟩;refine ⟨_,rfl,?_⟩;have n0_:=Am (rB (rL Bn.out) hb);have n1_:=Am (rB (rL Bo.out) hb);have n2_:=Am (rB (rL Br.out) hb);have n3_:=Am (rB (rL Bp.out) hb);have n4_:=Am (rB (rL Bq.out) hb);have n5_:=Am (rB (rL Bt.out) hb);have n6_:=Am (rB (rL Bh.out) hb);have n7_:=Am (rB (rL Bi.out) hb);have n8_:=Am (rB (rL Bj.out) hb);have n9_:=Am (rB (rL BJ.out) hb);have n10_:=Am (rB (rL BK.out) hb);have n11_:=Am (rB (rL BL.out) hb);have n12_:=Am (rB (rL BP.out) hb);have n13_:=Am (rB (rL BQ.out) hb);have n14_:=Am (rB (rL BR.out) hb);have n15_:=Am (bX Ba.out hb);have n16_:=Am (bX Bc.out hb);have n17_:=Am (bX Bd.out hb);have n18_:=Am (bX Be.out hb);have n19_:=Am (bX BE.out hb);have n20_:=Am (bP (by repeat (first|(with_reducible first|exact HB.out|apply oA|apply pN|apply o1|refine bS ?_ Bm.out|refine bS ?_ BC.out|refine bS ?_ BD.out|refine bS ?_ BI.out|refine bS ?_ B8.out)|exact HB.out)) hb);clear Bn Bo Br Bp Bq Bt Bh Bi Bj BJ BK BL BP BQ BR Ba Bc Bd Be BE HB;revert n0_ n1_ n2_ n3_ n4_ n5_ n6_ n7_ n8_ n9_ n10_ n11_ n12_ n13_ n14_ n15_ n16_ n17_ n18_ n19_ n20_;intro Bn Bo Br Bp Bq Bt Bh Bi Bj BJ BK BL BP BQ BR Ba Bc Bd Be BE HB;(try clear hb);(try clear hb2);(try clear hk);(try clear hi)))
   go_ret
   exact ⟨by first|rfl|(simp [errW_none,errW_some] <;> rfl)|(simp [*,errW_none,errW_some] <;> rfl),by repeat (first|(with_reducible first|exact HB.out|apply oA|apply pN|apply o1|refine bS ?_ Bm.out|refine bS ?_ BC.out|refine bS ?_ BD.out|refine bS ?_ BI.out|refine bS ?_ B8.out)|exact HB.out)⟩
/-- THE ONE PURE STATEMENT of laws_FnExactSigsRun. -/
def laws_FnExactSigsRun.Pure:Prop:=∀ (l0_0:List Bool) (l0_1:List Bool) (l0_2:List Int),l0_0.length≤9223372036854775807 → (∀ x0_ ∈ l0_0,True) → l0_1.length≤9223372036854775807 → (∀ x0_ ∈ l0_1,True) → l0_2.length≤9223372036854775807 → (∀ x0_ ∈ l0_2,(Lit.int .i64 x0_).wf=true) → ∃ k,laws_FnExactSigsRun.f k l0_0 l0_1 l0_2=some true

end Go.Proofs.Ytehekikjadjdaaa.PFnExactSigsRun
