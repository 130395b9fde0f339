/- Proved here, without a condition beyond those that each theorem states: what the Go functions named below do is what the plain functions of the same names say. Written by xprint.py, a program of this session. -/
import Derived.Test.YtpdfkbggaihfpaaPFnPagesSetx0
import Derived.Test.YtpdfkbggaihfpaaPFnPagesSetx1
namespace Go.Proofs.Ytpdfkbggaihfpaa.PFnPagesSet
open Go.RowKit Go.Proofs.YtpdfkbggaihfpaaW.PrintWords Go.Proofs.YtpdfkbggaihfpaaW.PrintLast Go.Proofs.YtpdfkbggaihfpaaW.PrintMore
attribute [local go_sem] max2_int min2_int max_two min_two max_three min_three max_four min_four   -- for this text's walks alone
set_option linter.unusedVariables false
set_option linter.unusedSimpArgs false

attribute [local go_sem ↓] isSome_setCell_
/-! ### spec_PagesOk: function 42 -/
mutual
def spec_PagesOk.j0 : Nat → Bool → List ByteArray → List Int → Option (Bool)
|0, _, _, _ => none
|k + 1, x18, x263000, x263001 => if x18 = true then (some false) else (spec_PagesOk.l0 k 0 x263000 x263001)
def spec_PagesOk.l0 : Nat → Int → List ByteArray → List Int → Option (Bool)
|0, _, _, _ => none
|k + 1, x3, x263000, x263001 => if x3 < (x263000.length : Int) then (if 0 ≤ x3 then (if x3 < (x263001.length : Int) then (if (rd x263001 x3) = 0 then ((spec_l6In.f (rd x263001 x3) 0 99).bind fun t266 => (if t266 = true then (if ((rdOf ByteArray.empty x263000 x3).size : Int) = 0 then (spec_PagesOk.l0 k (wrap64 (x3 + 1)) x263000 x263001) else (some false)) else (some false))) else ((spec_l6In.f (rd x263001 x3) 0 99).bind fun t269 => (if t269 = true then (if ((rdOf ByteArray.empty x263000 x3).size : Int) = 4 then (spec_PagesOk.l0 k (wrap64 (x3 + 1)) x263000 x263001) else (some false)) else (some false)))) else (none)) else (none)) else (some true)
end
def spec_PagesOk.f (k : Nat) (l0_0 : List ByteArray) (l0_1 : List Int) : Option (Bool) := if (l0_0.length : Int) = (l0_1.length : Int) then ((spec_l6In.f (l0_0.length : Int) 1 12).bind fun t263 => (spec_PagesOk.j0 k (!t263) l0_0 l0_1)) else (spec_PagesOk.j0 k true l0_0 l0_1)
theorem spec_PagesOk.mono_l : ∀ k, (∀ y0 y1 y2, LeO (spec_PagesOk.j0 k y0 y1 y2) (spec_PagesOk.j0 (k + 1) y0 y1 y2)) ∧ (∀ y0 y1 y2, LeO (spec_PagesOk.l0 k y0 y1 y2) (spec_PagesOk.l0 (k + 1) y0 y1 y2))
|0 => ⟨fun _ _ _ r h => by simp [spec_PagesOk.j0] at h, fun _ _ _ r h => by simp [spec_PagesOk.l0] at h⟩
|k + 1 => by
  obtain ⟨ih0, ih1⟩ := spec_PagesOk.mono_l k
  refine ⟨?_, ?_⟩
  ·intro y0 y1 y2
   unfold spec_PagesOk.j0
   repeat' first
  |(with_reducible exact ih0 _ _ _)
  |(with_reducible exact ih1 _ _ _)
  |(with_reducible exact LeO.refl _)
  |(with_reducible exact LeO.none _)
  |(with_reducible refine LeO.ite ?_ ?_)
  |(with_reducible refine LeO.bind ?_ (fun _ => ?_))
  |exact ih0 _ _ _
  |exact ih1 _ _ _
  |exact LeO.none _
  |refine LeO.ite ?_ ?_
  |refine LeO.bind ?_ (fun _ => ?_)
  ·intro y0 y1 y2
   unfold spec_PagesOk.l0
   repeat' first
  |(with_reducible exact ih0 _ _ _)
  |(with_reducible exact ih1 _ _ _)
  |(with_reducible exact LeO.refl _)
  |(with_reducible exact LeO.none _)
  |(with_reducible refine LeO.ite ?_ ?_)
  |(with_reducible refine LeO.bind ?_ (fun _ => ?_))
  |exact ih0 _ _ _
  |exact ih1 _ _ _
  |exact LeO.none _
  |refine LeO.ite ?_ ?_
  |refine LeO.bind ?_ (fun _ => ?_)
theorem spec_PagesOk.mono : ∀ a0 a1 k, LeO (spec_PagesOk.f k a0 a1) (spec_PagesOk.f (k + 1) a0 a1) := by
 intro a0 a1 k
 obtain ⟨ih0, ih1⟩ := spec_PagesOk.mono_l k
 unfold spec_PagesOk.f
 repeat' first
  |(with_reducible exact ih0 _ _ _)
  |(with_reducible exact ih1 _ _ _)
  |(with_reducible exact LeO.refl _)
  |(with_reducible exact LeO.none _)
  |(with_reducible refine LeO.ite ?_ ?_)
  |(with_reducible refine LeO.bind ?_ (fun _ => ?_))
  |exact ih0 _ _ _
  |exact ih1 _ _ _
  |exact LeO.none _
  |refine LeO.ite ?_ ?_
  |refine LeO.bind ?_ (fun _ => ?_)
set_option maxHeartbeats 2000000 in
set_option maxRecDepth 100000 in
theorem spec_PagesOk.calls (k:Nat) (A0_0:Option Addr) (c0_0:Nat) (l0_0:List ByteArray) (A0_1:Option Addr) (c0_1:Nat) (l0_1:List Int) (r:Bool) (w:World) (hr0_0:Kd.C Kd.string w A0_0 l0_0.length l0_0) (hc0_0:l0_0.length≤c0_0) (hr0_1:Kd.C (Kd.int .i64) w A0_1 l0_1.length l0_1) (hc0_1:l0_1.length≤c0_1) (h:spec_PagesOk.f k l0_0 l0_1=some r) :
  Calls Try.prog 42 #[.agg #[.slice A0_0 l0_0.length c0_0,.slice A0_1 l0_1.length c0_1]] w fun e w'=>e=.returned (.bool r)∧Below w.heap.size w w':=by
 have hu26:=Try.underlying26
 have HR0_0:=Am hr0_0
 have HC0_0:=Am hc0_0
 clear hr0_0 hc0_0
 have HR0_1:=Am hr0_1
 have HC0_1:=Am hc0_1
 clear hr0_1 hc0_1
 have HB:=Am (bJ w.heap.size w)
 have H:(if (l0_0.length:Int)=(l0_1.length:Int) then ((spec_l6In.f (l0_0.length:Int) 1 12).bind fun t263=>(spec_PagesOk.j0 k (!t263) l0_0 l0_1)) else (spec_PagesOk.j0 k true l0_0 l0_1))=some r:=h
 clear h
 have HC2:=Am H
 clear H
 go_enter Try.func42,Try.ntmps42
 go_upto_region 1 with (first|((with_reducible refine gD (N:=1) rfl ?_);(try (refine gate_guard (by rfl) ?_;dsimp only));refine bI ?hg (N:=1) ?hd (cs:=#[.slice A0_0 l0_0.length c0_0,.slice A0_1 l0_1.length c0_1]) (t:=26) ?hr ?_;(case hd=>rfl);(case hg=>rfl);(case hr=>first|(go_simp;done)|(go_simp;rfl));intro Bb hg w3 hbox hb;have n0_:=Am (bP (by repeat (first|(with_reducible first|exact HB.out|apply oA|apply pN|apply o1)|exact HB.out)) hb);have n1_:=Am (hbox);have n2_:=Am ((by rw [hg];exact (bZ (by repeat (first|(with_reducible first|exact HB.out|apply oA|apply pN|apply o1)|exact HB.out))):w.heap.size≤Bb));have n3_:=Am ((by rw [hg];exact (bZ (by repeat (first|(with_reducible first|exact HB.out|apply oA|apply pN|apply o1)|exact HB.out))):w.heap.size≤Bb));clear HB;revert n0_ n1_ n2_ n3_;intro HB Ba BO Bc;clear hb hbox hg))
 (try simp only [Act.put,lA,lZ,lS])
 go_cut [18] (fun v18 wc=>∃ (kq:Nat) (x18_1:Bool),v18=.bool x18_1∧Aside0 (spec_PagesOk.j0 kq x18_1 l0_0 l0_1=some r)∧Aside0 (kq≤k)∧Aside0 (wc.heap[Bb]?=some (.cells #[(.slice A0_0 l0_0.length c0_0),(.slice A0_1 l0_1.length c0_1)] 26 (0,0)))∧Aside0 (Below w.heap.size w wc))
 case first =>
  have H:=HC2.out
  clear HC2
  by_cases c4:(l0_0.length:Int)=(l0_1.length:Int)
  rotate_left
  ·rw [if_neg c4] at H
   have c4b0:((l0_0.length:Int) == (l0_1.length:Int))=false:=beq_eq_false_iff_ne.mpr c4
   have c4b1:((l0_0.length:Int) != (l0_1.length:Int))=true:=bne_iff_ne.mpr c4
   have c4b2:(l0_0.length == l0_1.length)=false:=by first|simpa using c4|(simp at c4 ⊢;omega)
   (first|rw [c4b0]|(simp only [i64_w,i32_w];rw [c4b0])|skip)
   have H':=Am H
   clear H
   have Bh:=cz0 Ba.out
   have Bi:=cz1 Ba.out
   have Bj:=bF Ba.out 0
   have Bk:=bF Ba.out 1
   go_wp2
   go_meet
   case rel=>exact ⟨_,(true),(by first|rfl|(simp;done)|(simp [*];done)),H',⟨by first|omega|exact nR _⟩,⟨by (with_reducible repeat (first|refine bN ?_ _|refine bD ?_|refine bA ?_ _));exact Ba.out⟩,⟨by repeat (first|(with_reducible first|exact HB.out|apply oA|apply pN|apply o1|refine bS ?_ Bc.out)|exact HB.out)⟩⟩
  rw [if_pos c4] at H
  have c4b0:((l0_0.length:Int) == (l0_1.length:Int))=true:=beq_iff_eq.mpr c4
  have c4b1:((l0_0.length:Int) != (l0_1.length:Int))=false:=bne_eq_false_iff_eq.mpr c4
  have c4b2:(l0_0.length == l0_1.length)=true:=by first|simpa using c4|(simp at c4 ⊢;omega)
  clear c4
  (first|rw [c4b0]|(simp only [i64_w,i32_w];rw [c4b0])|skip)
  replace H:=oC H
  obtain ⟨t263,A50,H⟩:=H
  replace H:(spec_PagesOk.j0 k (!t263) l0_0 l0_1)=some r:=H
  have A5:=Am A50
  clear A50
  have H':=Am H
  clear H
  have Bd:=cz0 Ba.out
  have Be:=cz1 Ba.out
  have Bf:=bF Ba.out 0
  have Bg:=bF Ba.out 1
  go_wp2_with (first|(go_at_call 51;(with_reducible refine (spec_l6In.calls (l0_0.length:Int) 1 12 t263 _ A5.out).mono ?_);rintro e w' ⟨rfl,⟨nd,rfl⟩⟩))
  go_meet
  case rel=>exact ⟨_,(!t263),(by first|rfl|(simp;done)|(simp [*];done)),H',⟨by first|omega|exact nR _⟩,⟨by (with_reducible repeat (first|refine bN ?_ _|refine bD ?_|refine bA ?_ _));exact Ba.out⟩,⟨by repeat (first|(with_reducible first|exact HB.out|apply oA|apply pN|apply o1|refine bS ?_ Bc.out)|exact HB.out)⟩⟩
 case rest =>
  clear HC2
  try clear p2
  try clear c4
  try clear c4b0
  try clear c4b1
  try clear c4b2
  try clear Bd
  try clear Be
  try clear Bh
  try clear Bi
  try clear Bf
  try clear Bg
  try clear Bj
  try clear Bk
  obtain ⟨kq,x18_1,rfl,HA,Bl,Ba,HB⟩:=hcut
  cases kq with
 |zero=>exact absurd HA.out (by simp [spec_PagesOk.j0])
 |succ kj1 =>
   have H:=HA.out
   clear HA
   simp only [spec_PagesOk.j0] at H
   by_cases c8:x18_1=true
   ·subst c8
    have H1:(some false)=some r:=by rw [if_pos rfl] at H;exact H
    clear H
    have H:=H1
    clear H1
    obtain rfl:=oJ H
    go_wp2
    go_ret
    exact ⟨by first|rfl|(simp [errW_none,errW_some] <;> rfl)|(simp [*,errW_none,errW_some] <;> rfl),by repeat (first|(with_reducible first|exact HB.out|apply oA|apply pN|apply o1|refine bS ?_ Bc.out)|exact HB.out)⟩
   replace c8:=Bool.eq_false_iff.mpr c8
   subst c8
   have H1:(spec_PagesOk.l0 kj1 0 l0_0 l0_1)=some r:=by rw [if_neg (show ¬ (false=true) by decide)] at H;exact H
   clear H
   have H:=H1
   clear H1
   have H':=Am H
   clear H
   go_wp2
   go_loopg [3] kj1 (fun kq v3 w'=>∃ (x3_2:Int),v3=.int .i64 x3_2∧Aside0 (spec_PagesOk.l0 kq x3_2 l0_0 l0_1=some r)∧Aside0 (kq≤kj1)∧Aside0 (w'.heap[Bb]?=some (.cells #[(.slice A0_0 l0_0.length c0_0),(.slice A0_1 l0_1.length c0_1)] 26 (0,0)))∧Aside0 (Below w.heap.size w w'))
   case atStart=>exact ⟨(0),(by first|rfl|(simp;done)|(simp [*];done)),H',⟨nR _⟩,⟨by (with_reducible repeat (first|refine bN ?_ _|refine bD ?_|refine bA ?_ _));exact Ba.out⟩,⟨by repeat (first|(with_reducible first|exact HB.out|apply oA|apply pN|apply o1|refine bS ?_ Bc.out)|exact HB.out)⟩⟩
   case round =>
    clear H'
    try clear p2
    try clear c4
    try clear c4b0
    try clear c4b1
    try clear c4b2
    try clear c8
    try clear Bd
    try clear Be
    try clear Bh
    try clear Bi
    try clear Bf
    try clear Bg
    try clear Bj
    try clear Bk
    try clear p2
    obtain ⟨x3_2,rfl,HA,HK2,Ba,HB⟩:=hrel
    cases gk with
   |zero=>exact absurd HA.out (by simp [spec_PagesOk.l0])
   |succ k2 =>
     have H:=HA.out
     clear HA
     simp only [spec_PagesOk.l0] at H
     by_cases c9:x3_2<(l0_0.length:Int)
     rotate_left
     ·rw [if_neg c9] at H
      have c9b0:decide (x3_2<(l0_0.length:Int))=false:=dF c9
      clear c9
      obtain rfl:=oJ H
      have BK:=cz0 Ba.out
      have BL:=cz1 Ba.out
      have BM:=bF Ba.out 0
      have BN:=bF Ba.out 1
      go_wp2
      go_ret
      exact ⟨by first|rfl|(simp [errW_none,errW_some] <;> rfl)|(simp [*,errW_none,errW_some] <;> rfl),by repeat (first|(with_reducible first|exact HB.out|apply oA|apply pN|apply o1|refine bS ?_ Bc.out)|exact HB.out)⟩

     rw [if_pos c9] at H
     have c9b0:decide (x3_2<(l0_0.length:Int))=true:=dT c9
     clear c9
     by_cases c10:0≤x3_2
     rotate_left
     ·rw [if_neg c10] at H
      exact absurd H (by simp)
     rw [if_pos c10] at H
     have c10b0:decide (0≤x3_2)=true:=dT c10
     clear c10
     by_cases c11:x3_2<(l0_1.length:Int)
     rotate_left
     ·rw [if_neg c11] at H
      exact absurd H (by simp)
     rw [if_pos c11] at H
     have c11b0:decide (x3_2<(l0_1.length:Int))=true:=dT c11
     clear c11
     by_cases c12:(rd l0_1 x3_2)=0
     rotate_left
     ·rw [if_neg c12] at H
      have c12b0:((rd l0_1 x3_2) == 0)=false:=beq_eq_false_iff_ne.mpr c12
      have c12b1:((rd l0_1 x3_2) != 0)=true:=bne_iff_ne.mpr c12
      replace H:=oC H
      obtain ⟨t269,A190,H⟩:=H
      replace H:(if t269=true then (if ((rdOf ByteArray.empty l0_0 x3_2).size:Int)=4 then (spec_PagesOk.l0 k2 (wrap64 (x3_2 + 1)) l0_0 l0_1) else (some false)) else (some false))=some r:=H
      have A19:=Am A190
      clear A190
      by_cases c20:t269=true
      rotate_left
      ·replace c20:=Bool.eq_false_iff.mpr c20
       subst c20
       have H1:(some false)=some r:=by rw [if_neg (show ¬ (false=true) by decide)] at H;exact H
       clear H
       have H:=H1
       clear H1
       obtain rfl:=oJ H
       have BG:=cz0 Ba.out
       have BH:=cz1 Ba.out
       have BI:=bF Ba.out 0
       have BJ:=bF Ba.out 1
       have p264:0≤(x3_2:Int):=oE (by first|(with_reducible assumption)|assumption)
       have q264:x3_2<(l0_1.length:Int):=oE (by first|(with_reducible assumption)|assumption)
       obtain ⟨ad264,e264,hx264_0⟩:=Kd.at_int HR0_1.out x3_2 p264 q264
       cases e264
       replace hx264_0:=(bW HB hx264_0:)
       replace p264:=eq_true p264
       replace q264:=eq_true q264
       have p268:0≤(x3_2:Int):=oE (by first|(with_reducible assumption)|assumption)
       have q268:x3_2<(l0_1.length:Int):=oE (by first|(with_reducible assumption)|assumption)
       obtain ⟨ad268,e268,hx268_0⟩:=Kd.at_int HR0_1.out x3_2 p268 q268
       obtain rfl:ad264=ad268:=(by injection e268)
       replace hx268_0:=(bW HB hx268_0:)
       replace p268:=eq_true p268
       replace q268:=eq_true q268
       go_wp2_with (first|((with_reducible refine gC (f:=51) rfl ?_);refine goesL_ (some 37) rfl rfl Try.func51 (by kernel_rfl) rfl #[.int .i64 (rd l0_1 x3_2),.int .i64 0,.int .i64 99] rfl (by (try simp only [lM,lC,lN]);first|done|rfl|(simp only [lD,lT];rfl)) ?_;(with_reducible refine (spec_l6In.calls (rd l0_1 x3_2) 0 99 false _ A19.out).mono ?_);rintro e w' ⟨rfl,⟨nd,rfl⟩⟩;refine ⟨_,rfl,?_⟩))
       go_ret
       exact ⟨by first|rfl|(simp [errW_none,errW_some] <;> rfl)|(simp [*,errW_none,errW_some] <;> rfl),by repeat (first|(with_reducible first|exact HB.out|apply oA|apply pN|apply o1|refine bS ?_ Bc.out)|exact HB.out)⟩
      subst c20
      have H1:(if ((rdOf ByteArray.empty l0_0 x3_2).size:Int)=4 then (spec_PagesOk.l0 k2 (wrap64 (x3_2 + 1)) l0_0 l0_1) else (some false))=some r:=by rw [if_pos rfl] at H;exact H
      clear H
      have H:=H1
      clear H1
      by_cases c21:((rdOf ByteArray.empty l0_0 x3_2).size:Int)=4
      rotate_left
      ·rw [if_neg c21] at H
       have c21b0:(((rdOf ByteArray.empty l0_0 x3_2).size:Int) == 4)=false:=beq_eq_false_iff_ne.mpr c21
       have c21b1:(((rdOf ByteArray.empty l0_0 x3_2).size:Int) != 4)=true:=bne_iff_ne.mpr c21
       obtain rfl:=oJ H
       have BC:=cz0 Ba.out
       have BD:=cz1 Ba.out
       have BE:=bF Ba.out 0
       have BF:=bF Ba.out 1
       have p264:0≤(x3_2:Int):=oE (by first|(with_reducible assumption)|assumption)
       have q264:x3_2<(l0_1.length:Int):=oE (by first|(with_reducible assumption)|assumption)
       obtain ⟨ad264,e264,hx264_0⟩:=Kd.at_int HR0_1.out x3_2 p264 q264
       cases e264
       replace hx264_0:=(bW HB hx264_0:)
       replace p264:=eq_true p264
       replace q264:=eq_true q264
       have p268:0≤(x3_2:Int):=oE (by first|(with_reducible assumption)|assumption)
       have q268:x3_2<(l0_1.length:Int):=oE (by first|(with_reducible assumption)|assumption)
       obtain ⟨ad268,e268,hx268_0⟩:=Kd.at_int HR0_1.out x3_2 p268 q268
       obtain rfl:ad264=ad268:=(by injection e268)
       replace hx268_0:=(bW HB hx268_0:)
       replace p268:=eq_true p268
       replace q268:=eq_true q268
       go_wp2_with (first|((with_reducible refine gC (f:=51) rfl ?_);refine goesL_ (some 37) rfl rfl Try.func51 (by kernel_rfl) rfl #[.int .i64 (rd l0_1 x3_2),.int .i64 0,.int .i64 99] rfl (by (try simp only [lM,lC,lN]);first|done|rfl|(simp only [lD,lT];rfl)) ?_;(with_reducible refine (spec_l6In.calls (rd l0_1 x3_2) 0 99 true _ A19.out).mono ?_);rintro e w' ⟨rfl,⟨nd,rfl⟩⟩;refine ⟨_,rfl,?_⟩;have p270:0≤(x3_2:Int):=oE (by first|(with_reducible assumption)|assumption);have q270:x3_2<(l0_0.length:Int):=oE (by first|(with_reducible assumption)|assumption);obtain ⟨ad270,e270,hx270_0⟩:=Kd.at_string HR0_0.out x3_2 p270 q270;cases e270;replace hx270_0:=(HB.out.cell (World.block_lt_of_cell? w _ hx270_0)).trans hx270_0;replace p270:=eq_true p270;replace q270:=eq_true q270))
       go_ret
       exact ⟨by first|rfl|(simp [errW_none,errW_some] <;> rfl)|(simp [*,errW_none,errW_some] <;> rfl),by repeat (first|(with_reducible first|exact HB.out|apply oA|apply pN|apply o1|refine bS ?_ Bc.out)|exact HB.out)⟩
      rw [if_pos c21] at H
      have c21b0:(((rdOf ByteArray.empty l0_0 x3_2).size:Int) == 4)=true:=beq_iff_eq.mpr c21
      have c21b1:(((rdOf ByteArray.empty l0_0 x3_2).size:Int) != 4)=false:=bne_eq_false_iff_eq.mpr c21
      clear c21
      have H':=Am H
      clear H
      have By:=cz0 Ba.out
      have Bz:=cz1 Ba.out
      have BA:=bF Ba.out 0
      have BB:=bF Ba.out 1
      have p264:0≤(x3_2:Int):=oE (by first|(with_reducible assumption)|assumption)
      have q264:x3_2<(l0_1.length:Int):=oE (by first|(with_reducible assumption)|assumption)
      obtain ⟨ad264,e264,hx264_0⟩:=Kd.at_int HR0_1.out x3_2 p264 q264
      cases e264
      replace hx264_0:=(bW HB hx264_0:)
      replace p264:=eq_true p264
      replace q264:=eq_true q264
      have p268:0≤(x3_2:Int):=oE (by first|(with_reducible assumption)|assumption)
      have q268:x3_2<(l0_1.length:Int):=oE (by first|(with_reducible assumption)|assumption)
      obtain ⟨ad268,e268,hx268_0⟩:=Kd.at_int HR0_1.out x3_2 p268 q268
      obtain rfl:ad264=ad268:=(by injection e268)
      replace hx268_0:=(bW HB hx268_0:)
      replace p268:=eq_true p268
      replace q268:=eq_true q268
      go_wp2_with (first|((with_reducible refine gC (f:=51) rfl ?_);refine goesL_ (some 37) rfl rfl Try.func51 (by kernel_rfl) rfl #[.int .i64 (rd l0_1 x3_2),.int .i64 0,.int .i64 99] rfl (by (try simp only [lM,lC,lN]);first|done|rfl|(simp only [lD,lT];rfl)) ?_;(with_reducible refine (spec_l6In.calls (rd l0_1 x3_2) 0 99 true _ A19.out).mono ?_);rintro e w' ⟨rfl,⟨nd,rfl⟩⟩;refine ⟨_,rfl,?_⟩;have p270:0≤(x3_2:Int):=oE (by first|(with_reducible assumption)|assumption);have q270:x3_2<(l0_0.length:Int):=oE (by first|(with_reducible assumption)|assumption);obtain ⟨ad270,e270,hx270_0⟩:=Kd.at_string HR0_0.out x3_2 p270 q270;cases e270;replace hx270_0:=(HB.out.cell (World.block_lt_of_cell? w _ hx270_0)).trans hx270_0;replace p270:=eq_true p270;replace q270:=eq_true q270))
      go_roundg k2
      case measure=>have:=Bl.out;have:=HK2.out;omega
      case rel=>exact ⟨(wrap64 (x3_2 + 1)),(by first|rfl|(simp;done)|(simp [*];done)),H',⟨by have:=Bl.out;have:=HK2.out;omega⟩,⟨by (with_reducible repeat (first|refine bN ?_ _|refine bD ?_|refine bA ?_ _));exact Ba.out⟩,⟨by repeat (first|(with_reducible first|exact HB.out|apply oA|apply pN|apply o1|refine bS ?_ Bc.out)|exact HB.out)⟩⟩
     rw [if_pos c12] at H
     have c12b0:((rd l0_1 x3_2) == 0)=true:=beq_iff_eq.mpr c12
     have c12b1:((rd l0_1 x3_2) != 0)=false:=bne_eq_false_iff_eq.mpr c12
     clear c12
     replace H:=oC H
     obtain ⟨t266,A130,H⟩:=H
     replace H:(if t266=true then (if ((rdOf ByteArray.empty l0_0 x3_2).size:Int)=0 then (spec_PagesOk.l0 k2 (wrap64 (x3_2 + 1)) l0_0 l0_1) else (some false)) else (some false))=some r:=H
     have A13:=Am A130
     clear A130
     by_cases c14:t266=true
     rotate_left
     ·replace c14:=Bool.eq_false_iff.mpr c14
      subst c14
      have H1:(some false)=some r:=by rw [if_neg (show ¬ (false=true) by decide)] at H;exact H
      clear H
      have H:=H1
      clear H1
      obtain rfl:=oJ H
      have Bu:=cz0 Ba.out
      have Bv:=cz1 Ba.out
      have Bw:=bF Ba.out 0
      have Bx:=bF Ba.out 1
      have p264:0≤(x3_2:Int):=oE (by first|(with_reducible assumption)|assumption)
      have q264:x3_2<(l0_1.length:Int):=oE (by first|(with_reducible assumption)|assumption)
      obtain ⟨ad264,e264,hx264_0⟩:=Kd.at_int HR0_1.out x3_2 p264 q264
      cases e264
      replace hx264_0:=(bW HB hx264_0:)
      replace p264:=eq_true p264
      replace q264:=eq_true q264
      have p265:0≤(x3_2:Int):=oE (by first|(with_reducible assumption)|assumption)
      have q265:x3_2<(l0_1.length:Int):=oE (by first|(with_reducible assumption)|assumption)
      obtain ⟨ad265,e265,hx265_0⟩:=Kd.at_int HR0_1.out x3_2 p265 q265
      obtain rfl:ad264=ad265:=(by injection e265)
      replace hx265_0:=(bW HB hx265_0:)
      replace p265:=eq_true p265
      replace q265:=eq_true q265
      go_wp2_with (first|((with_reducible refine gC (f:=51) rfl ?_);refine goesL_ (some 37) rfl rfl Try.func51 (by kernel_rfl) rfl #[.int .i64 (rd l0_1 x3_2),.int .i64 0,.int .i64 99] rfl (by (try simp only [lM,lC,lN]);first|done|rfl|(simp only [lD,lT];rfl)) ?_;(with_reducible refine (spec_l6In.calls (rd l0_1 x3_2) 0 99 false _ A13.out).mono ?_);rintro e w' ⟨rfl,⟨nd,rfl⟩⟩;refine ⟨_,rfl,?_⟩))
      go_ret
      exact ⟨by first|rfl|(simp [errW_none,errW_some] <;> rfl)|(simp [*,errW_none,errW_some] <;> rfl),by repeat (first|(with_reducible first|exact HB.out|apply oA|apply pN|apply o1|refine bS ?_ Bc.out)|exact HB.out)⟩
     subst c14
     have H1:(if ((rdOf ByteArray.empty l0_0 x3_2).size:Int)=0 then (spec_PagesOk.l0 k2 (wrap64 (x3_2 + 1)) l0_0 l0_1) else (some false))=some r:=by rw [if_pos rfl] at H;exact H
     clear H
     have H:=H1
     clear H1
     by_cases c15:((rdOf ByteArray.empty l0_0 x3_2).size:Int)=0
     rotate_left
     ·rw [if_neg c15] at H
      have c15b0:(((rdOf ByteArray.empty l0_0 x3_2).size:Int) == 0)=false:=beq_eq_false_iff_ne.mpr c15
      have c15b1:(((rdOf ByteArray.empty l0_0 x3_2).size:Int) != 0)=true:=bne_iff_ne.mpr c15
      obtain rfl:=oJ H
      have Bq:=cz0 Ba.out
      have Br:=cz1 Ba.out
      have Bs:=bF Ba.out 0
      have Bt:=bF Ba.out 1
      have p264:0≤(x3_2:Int):=oE (by first|(with_reducible assumption)|assumption)
      have q264:x3_2<(l0_1.length:Int):=oE (by first|(with_reducible assumption)|assumption)
      obtain ⟨ad264,e264,hx264_0⟩:=Kd.at_int HR0_1.out x3_2 p264 q264
      cases e264
      replace hx264_0:=(bW HB hx264_0:)
      replace p264:=eq_true p264
      replace q264:=eq_true q264
      have p265:0≤(x3_2:Int):=oE (by first|(with_reducible assumption)|assumption)
      have q265:x3_2<(l0_1.length:Int):=oE (by first|(with_reducible assumption)|assumption)
      obtain ⟨ad265,e265,hx265_0⟩:=Kd.at_int HR0_1.out x3_2 p265 q265
      obtain rfl:ad264=ad265:=(by injection e265)
      replace hx265_0:=(bW HB hx265_0:)
      replace p265:=eq_true p265
      replace q265:=eq_true q265
      go_wp2_with (first|((with_reducible refine gC (f:=51) rfl ?_);refine goesL_ (some 37) rfl rfl Try.func51 (by kernel_rfl) rfl #[.int .i64 (rd l0_1 x3_2),.int .i64 0,.int .i64 99] rfl (by (try simp only [lM,lC,lN]);first|done|rfl|(simp only [lD,lT];rfl)) ?_;(with_reducible refine (spec_l6In.calls (rd l0_1 x3_2) 0 99 true _ A13.out).mono ?_);rintro e w' ⟨rfl,⟨nd,rfl⟩⟩;refine ⟨_,rfl,?_⟩;have p267:0≤(x3_2:Int):=oE (by first|(with_reducible assumption)|assumption);have q267:x3_2<(l0_0.length:Int):=oE (by first|(with_reducible assumption)|assumption);obtain ⟨ad267,e267,hx267_0⟩:=Kd.at_string HR0_0.out x3_2 p267 q267;cases e267;replace hx267_0:=(HB.out.cell (World.block_lt_of_cell? w _ hx267_0)).trans hx267_0;replace p267:=eq_true p267;replace q267:=eq_true q267))
      go_ret
      exact ⟨by first|rfl|(simp [errW_none,errW_some] <;> rfl)|(simp [*,errW_none,errW_some] <;> rfl),by repeat (first|(with_reducible first|exact HB.out|apply oA|apply pN|apply o1|refine bS ?_ Bc.out)|exact HB.out)⟩
     rw [if_pos c15] at H
     have c15b0:(((rdOf ByteArray.empty l0_0 x3_2).size:Int) == 0)=true:=beq_iff_eq.mpr c15
     have c15b1:(((rdOf ByteArray.empty l0_0 x3_2).size:Int) != 0)=false:=bne_eq_false_iff_eq.mpr c15
     clear c15
     have H':=Am H
     clear H
     have Bm:=cz0 Ba.out
     have Bn:=cz1 Ba.out
     have Bo:=bF Ba.out 0
     have Bp:=bF Ba.out 1
     have p264:0≤(x3_2:Int):=oE (by first|(with_reducible assumption)|assumption)
     have q264:x3_2<(l0_1.length:Int):=oE (by first|(with_reducible assumption)|assumption)
     obtain ⟨ad264,e264,hx264_0⟩:=Kd.at_int HR0_1.out x3_2 p264 q264
     cases e264
     replace hx264_0:=(bW HB hx264_0:)
     replace p264:=eq_true p264
     replace q264:=eq_true q264
     have p265:0≤(x3_2:Int):=oE (by first|(with_reducible assumption)|assumption)
     have q265:x3_2<(l0_1.length:Int):=oE (by first|(with_reducible assumption)|assumption)
     obtain ⟨ad265,e265,hx265_0⟩:=Kd.at_int HR0_1.out x3_2 p265 q265
     obtain rfl:ad264=ad265:=(by injection e265)
     replace hx265_0:=(bW HB hx265_0:)
     replace p265:=eq_true p265
     replace q265:=eq_true q265
     go_wp2_with (first|((with_reducible refine gC (f:=51) rfl ?_);refine goesL_ (some 37) rfl rfl Try.func51 (by kernel_rfl) rfl #[.int .i64 (rd l0_1 x3_2),.int .i64 0,.int .i64 99] rfl (by (try simp only [lM,lC,lN]);first|done|rfl|(simp only [lD,lT];rfl)) ?_;(with_reducible refine (spec_l6In.calls (rd l0_1 x3_2) 0 99 true _ A13.out).mono ?_);rintro e w' ⟨rfl,⟨nd,rfl⟩⟩;refine ⟨_,rfl,?_⟩;have p267:0≤(x3_2:Int):=oE (by first|(with_reducible assumption)|assumption);have q267:x3_2<(l0_0.length:Int):=oE (by first|(with_reducible assumption)|assumption);obtain ⟨ad267,e267,hx267_0⟩:=Kd.at_string HR0_0.out x3_2 p267 q267;cases e267;replace hx267_0:=(HB.out.cell (World.block_lt_of_cell? w _ hx267_0)).trans hx267_0;replace p267:=eq_true p267;replace q267:=eq_true q267))
     go_roundg k2
     case measure=>have:=Bl.out;have:=HK2.out;omega
     case rel=>exact ⟨(wrap64 (x3_2 + 1)),(by first|rfl|(simp;done)|(simp [*];done)),H',⟨by have:=Bl.out;have:=HK2.out;omega⟩,⟨by (with_reducible repeat (first|refine bN ?_ _|refine bD ?_|refine bA ?_ _));exact Ba.out⟩,⟨by repeat (first|(with_reducible first|exact HB.out|apply oA|apply pN|apply o1|refine bS ?_ Bc.out)|exact HB.out)⟩⟩
end Go.Proofs.Ytpdfkbggaihfpaa.PFnPagesSet
