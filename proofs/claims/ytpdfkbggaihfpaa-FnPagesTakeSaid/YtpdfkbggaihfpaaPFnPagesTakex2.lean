/- Proved here, without a condition beyond those that each theorem states: what the Go functions named below do is what the plain functions of the same names say. Written by xprint.py, a program of this session. -/
import Derived.Test.YtpdfkbggaihfpaaPFnPagesTakex0
import Derived.Test.YtpdfkbggaihfpaaPFnPagesTakex1
namespace Go.Proofs.Ytpdfkbggaihfpaa.PFnPagesTake
open Go.RowKit Go.Proofs.YtpdfkbggaihfpaaW.PrintWords Go.Proofs.YtpdfkbggaihfpaaW.PrintLast Go.Proofs.YtpdfkbggaihfpaaW.PrintMore
attribute [local go_sem] max2_int min2_int max_two min_two max_three min_three max_four min_four   -- for this text's walks alone
set_option linter.unusedVariables false
set_option linter.unusedSimpArgs false

attribute [local go_sem ↓] isSome_setCell_
/-! ### impl_PagesRoom: function 13 -/
def impl_PagesRoom.l0 : Nat → Int → List Int → Int → Int → Option (Int)
|0, _, _, _, _ => none
|k + 1, x3, x10, x11, x12 => if x12 < x11 then (if 0 ≤ x12 then (if x12 < (x10.length : Int) then (if (rd x10 x12) = 0 then (impl_PagesRoom.l0 k (wrap64 (x3 + 1)) x10 x11 (wrap64 (x12 + 1))) else (impl_PagesRoom.l0 k x3 x10 x11 (wrap64 (x12 + 1)))) else (none)) else (none)) else (some x3)
def impl_PagesRoom.f (k : Nat) (l0_0 : List ByteArray) (l0_1 : List Int) : Option (Int) := (impl_PagesOk.f k l0_0 l0_1).bind fun t109 => (if t109 = true then (impl_PagesRoom.l0 k 0 l0_1 (l0_1.length : Int) 0) else (some (-1)))
theorem impl_PagesRoom.mono_l : ∀ k, (∀ y0 y1 y2 y3, LeO (impl_PagesRoom.l0 k y0 y1 y2 y3) (impl_PagesRoom.l0 (k + 1) y0 y1 y2 y3))
|0 => fun _ _ _ _ r h => by simp [impl_PagesRoom.l0] at h
|k + 1 => by
  have ih0 := impl_PagesRoom.mono_l k
  ·intro y0 y1 y2 y3
   unfold impl_PagesRoom.l0
   repeat' first
  |(with_reducible exact ih0 _ _ _ _)
  |(with_reducible exact impl_PagesOk.mono _ _ _)
  |(with_reducible exact LeO.refl _)
  |(with_reducible exact LeO.none _)
  |(with_reducible refine LeO.ite ?_ ?_)
  |(with_reducible refine LeO.bind ?_ (fun _ => ?_))
  |exact ih0 _ _ _ _
  |exact impl_PagesOk.mono _ _ _
  |exact LeO.none _
  |refine LeO.ite ?_ ?_
  |refine LeO.bind ?_ (fun _ => ?_)
theorem impl_PagesRoom.mono : ∀ a0 a1 k, LeO (impl_PagesRoom.f k a0 a1) (impl_PagesRoom.f (k + 1) a0 a1) := by
 intro a0 a1 k
 have ih0 := impl_PagesRoom.mono_l k
 unfold impl_PagesRoom.f
 repeat' first
  |(with_reducible exact ih0 _ _ _ _)
  |(with_reducible exact impl_PagesOk.mono _ _ _)
  |(with_reducible exact LeO.refl _)
  |(with_reducible exact LeO.none _)
  |(with_reducible refine LeO.ite ?_ ?_)
  |(with_reducible refine LeO.bind ?_ (fun _ => ?_))
  |exact ih0 _ _ _ _
  |exact impl_PagesOk.mono _ _ _
  |exact LeO.none _
  |refine LeO.ite ?_ ?_
  |refine LeO.bind ?_ (fun _ => ?_)
set_option maxHeartbeats 2000000 in
set_option maxRecDepth 100000 in
theorem impl_PagesRoom.calls (k:Nat) (A0_0:Option Addr) (c0_0:Nat) (l0_0:List ByteArray) (A0_1:Option Addr) (c0_1:Nat) (l0_1:List Int) (r:Int) (w:World) (hr0_0:Kd.C Kd.string w A0_0 l0_0.length l0_0) (hc0_0:l0_0.length≤c0_0) (hr0_1:Kd.C (Kd.int .i64) w A0_1 l0_1.length l0_1) (hc0_1:l0_1.length≤c0_1) (h:impl_PagesRoom.f k l0_0 l0_1=some r) :
  Calls Try.prog 13 #[.agg #[.slice A0_0 l0_0.length c0_0,.slice A0_1 l0_1.length c0_1]] w fun e w'=>e=.returned (.int .i64 r)∧Below w.heap.size w w':=by
 have hu26:=Try.underlying26
 have HR0_0:=Am hr0_0
 have HC0_0:=Am hc0_0
 clear hr0_0 hc0_0
 have HR0_1:=Am hr0_1
 have HC0_1:=Am hc0_1
 clear hr0_1 hc0_1
 have HB:=Am (bJ w.heap.size w)
 have H:((impl_PagesOk.f k l0_0 l0_1).bind fun t109=>(if t109=true then (impl_PagesRoom.l0 k 0 l0_1 (l0_1.length:Int) 0) else (some (-1))))=some r:=h
 clear h
 replace H:=oC H
 obtain ⟨t109,A20,H⟩:=H
 replace H:(if t109=true then (impl_PagesRoom.l0 k 0 l0_1 (l0_1.length:Int) 0) else (some (-1)))=some r:=H
 have A2:=Am A20
 clear A20
 by_cases c3:t109=true
 rotate_left
 ·replace c3:=Bool.eq_false_iff.mpr c3
  subst c3
  have H1:(some (-1))=some r:=by rw [if_neg (show ¬ (false=true) by decide)] at H;exact H
  clear H
  have H:=H1
  clear H1
  obtain rfl:=oJ H
  go_enter Try.func13,Try.ntmps13
  go_wp2_with (first|((with_reducible refine gD (N:=1) rfl ?_);refine bI ?hg (N:=1) ?hd (cs:=#[.slice A0_0 l0_0.length c0_0,.slice A0_1 l0_1.length c0_1]) (t:=26) ?hr ?_;(case hd=>rfl);(case hg=>rfl);(case hr=>first|(go_simp;done)|(go_simp;rfl));intro Bb hg w12 hbox hb;have n0_:=Am (bP (by repeat (first|(with_reducible first|exact HB.out|apply oA|apply pN|apply o1)|exact HB.out)) hb);have n1_:=Am (hbox);have n2_:=Am ((by rw [hg];exact (bZ (by repeat (first|(with_reducible first|exact HB.out|apply oA|apply pN|apply o1)|exact HB.out))):w.heap.size≤Bb));have n3_:=Am ((by rw [hg];exact (bZ (by repeat (first|(with_reducible first|exact HB.out|apply oA|apply pN|apply o1)|exact HB.out))):w.heap.size≤Bb));clear HB;revert n0_ n1_ n2_ n3_;intro HB Ba Bl Bc;clear hb hbox hg;have Bm:=cz0 Ba.out;have Bn:=cz1 Ba.out;have Bo:=bF Ba.out 0;have Bp:=bF Ba.out 1)|((with_reducible refine gC (f:=29) rfl ?_);refine goesL_ (some 7) rfl rfl Try.func29 (by kernel_rfl) rfl #[.agg #[.slice A0_0 l0_0.length c0_0,.slice A0_1 l0_1.length c0_1]] rfl (by (try simp only [lM,lC,lN]);first|done|rfl|(simp only [lD,lT];rfl)) ?_;(with_reducible refine (impl_PagesOk.calls k _ _ l0_0 _ _ l0_1 false _ ?side1 ?side2 ?side3 ?side4 A2.out).mono ?_);(case side1=>exact cL (cB HR0_0.out HB.out));(case side2=>exact HC0_0.out);(case side3=>exact cL (cB HR0_1.out HB.out));(case side4=>exact HC0_1.out);rintro e w14 ⟨rfl,hb⟩;refine ⟨_,rfl,?_⟩;have n0_:=Am (bX Ba.out hb);have n1_:=Am (bP (by repeat (first|(with_reducible first|exact HB.out|apply oA|apply pN|apply o1|refine bS ?_ Bc.out)|exact HB.out)) hb);clear Ba HB;revert n0_ n1_;intro Ba HB;(try clear hb);(try clear hb2);(try clear hk);(try clear hi)))
  go_ret
  exact ⟨by first|rfl|(simp [errW_none,errW_some] <;> rfl)|(simp [*,errW_none,errW_some] <;> rfl),by repeat (first|(with_reducible first|exact HB.out|apply oA|apply pN|apply o1|refine bS ?_ Bc.out)|exact HB.out)⟩


 subst c3
 have H1:(impl_PagesRoom.l0 k 0 l0_1 (l0_1.length:Int) 0)=some r:=by rw [if_pos rfl] at H;exact H
 clear H
 have H:=H1
 clear H1
 have H':=Am H
 clear H
 go_enter Try.func13,Try.ntmps13
 go_wp2_with (first|((with_reducible refine gD (N:=1) rfl ?_);refine bI ?hg (N:=1) ?hd (cs:=#[.slice A0_0 l0_0.length c0_0,.slice A0_1 l0_1.length c0_1]) (t:=26) ?hr ?_;(case hd=>rfl);(case hg=>rfl);(case hr=>first|(go_simp;done)|(go_simp;rfl));intro Bb hg w4 hbox hb;have n0_:=Am (bP (by repeat (first|(with_reducible first|exact HB.out|apply oA|apply pN|apply o1)|exact HB.out)) hb);have n1_:=Am (hbox);have n2_:=Am ((by rw [hg];exact (bZ (by repeat (first|(with_reducible first|exact HB.out|apply oA|apply pN|apply o1)|exact HB.out))):w.heap.size≤Bb));have n3_:=Am ((by rw [hg];exact (bZ (by repeat (first|(with_reducible first|exact HB.out|apply oA|apply pN|apply o1)|exact HB.out))):w.heap.size≤Bb));clear HB;revert n0_ n1_ n2_ n3_;intro HB Ba Bl Bc;clear hb hbox hg;have Bd:=cz0 Ba.out;have Be:=cz1 Ba.out;have Bf:=bF Ba.out 0;have Bg:=bF Ba.out 1)|((with_reducible refine gC (f:=29) rfl ?_);refine goesL_ (some 7) rfl rfl Try.func29 (by kernel_rfl) rfl #[.agg #[.slice A0_0 l0_0.length c0_0,.slice A0_1 l0_1.length c0_1]] rfl (by (try simp only [lM,lC,lN]);first|done|rfl|(simp only [lD,lT];rfl)) ?_;(with_reducible refine (impl_PagesOk.calls k _ _ l0_0 _ _ l0_1 true _ ?side1 ?side2 ?side3 ?side4 A2.out).mono ?_);(case side1=>exact cL (cB HR0_0.out HB.out));(case side2=>exact HC0_0.out);(case side3=>exact cL (cB HR0_1.out HB.out));(case side4=>exact HC0_1.out);rintro e w6 ⟨rfl,hb⟩;refine ⟨_,rfl,?_⟩;have n0_:=Am (bX Ba.out hb);have n1_:=Am (bP (by repeat (first|(with_reducible first|exact HB.out|apply oA|apply pN|apply o1|refine bS ?_ Bc.out)|exact HB.out)) hb);clear Ba HB;revert n0_ n1_;intro Ba HB;(try clear hb);(try clear hb2);(try clear hk);(try clear hi);have Bh:=cz0 Ba.out;have Bi:=cz1 Ba.out;have Bj:=bF Ba.out 0;have Bk:=bF Ba.out 1))
 go_loopg [3,12] k (fun kq v3 v12 w'=>∃ (x3_1:Int) (x12_1:Int),v3=.int .i64 x3_1∧v12=.int .i64 x12_1∧Aside0 (impl_PagesRoom.l0 kq x3_1 l0_1 (l0_1.length:Int) x12_1=some r)∧Aside0 (kq≤k)∧Aside0 (w'.heap[Bb]?=some (.cells #[(.slice A0_0 l0_0.length c0_0),(.slice A0_1 l0_1.length c0_1)] 26 (0,0)))∧Aside0 (Below w.heap.size w w'))
 case atStart=>exact ⟨(0),(0),(by first|rfl|(simp;done)|(simp [*];done)),(by first|rfl|(simp;done)|(simp [*];done)),H',⟨nR _⟩,⟨by (with_reducible repeat (first|refine bN ?_ _|refine bD ?_|refine bA ?_ _));exact Ba.out⟩,⟨by repeat (first|(with_reducible first|exact HB.out|apply oA|apply pN|apply o1|refine bS ?_ Bc.out)|exact HB.out)⟩⟩
 case round =>
  clear H'
  try clear c1
  try clear c2
  try clear p2
  try clear c3
  try clear Bd
  try clear Be
  try clear Bh
  try clear Bi
  try clear Bf
  try clear Bg
  try clear Bj
  try clear Bk
  obtain ⟨x3_1,x12_1,rfl,rfl,HA,HK1,Ba,HB⟩:=hrel
  cases gk with
 |zero=>exact absurd HA.out (by simp [impl_PagesRoom.l0])
 |succ k1 =>
   have H:=HA.out
   clear HA
   simp only [impl_PagesRoom.l0] at H
   by_cases c8:x12_1<(l0_1.length:Int)
   rotate_left
   ·rw [if_neg c8] at H
    have c8b0:decide (x12_1<(l0_1.length:Int))=false:=dF c8
    clear c8
    obtain rfl:=oJ H
    go_wp2
    go_ret
    exact ⟨by first|rfl|(simp [errW_none,errW_some] <;> rfl)|(simp [*,errW_none,errW_some] <;> rfl),by repeat (first|(with_reducible first|exact HB.out|apply oA|apply pN|apply o1|refine bS ?_ Bc.out)|exact HB.out)⟩
   rw [if_pos c8] at H
   have c8b0:decide (x12_1<(l0_1.length:Int))=true:=dT c8
   clear c8
   by_cases c9:0≤x12_1
   rotate_left
   ·rw [if_neg c9] at H
    exact absurd H (by simp)
   rw [if_pos c9] at H
   have c9b0:decide (0≤x12_1)=true:=dT c9
   clear c9
   by_cases c10:x12_1<(l0_1.length:Int)
   rotate_left
   ·rw [if_neg c10] at H
    exact absurd H (by simp)
   rw [if_pos c10] at H
   have c10b0:decide (x12_1<(l0_1.length:Int))=true:=dT c10
   clear c10
   by_cases c11:(rd l0_1 x12_1)=0
   rotate_left
   ·rw [if_neg c11] at H
    have c11b0:((rd l0_1 x12_1) == 0)=false:=beq_eq_false_iff_ne.mpr c11
    have c11b1:((rd l0_1 x12_1) != 0)=true:=bne_iff_ne.mpr c11
    have H':=Am H
    clear H
    have p110:0≤(x12_1:Int):=oE (by first|(with_reducible assumption)|assumption)
    have q110:x12_1<(l0_1.length:Int):=oE (by first|(with_reducible assumption)|assumption)
    obtain ⟨ad110,e110,hx110_0⟩:=Kd.at_int HR0_1.out x12_1 p110 q110
    cases e110
    replace hx110_0:=(bW HB hx110_0:)
    replace p110:=eq_true p110
    replace q110:=eq_true q110
    go_wp2
    go_roundg k1
    case measure=>have:=HK1.out;omega
    case rel=>exact ⟨(x3_1),(wrap64 (x12_1 + 1)),(by first|rfl|(simp;done)|(simp [*];done)),(by first|rfl|(simp;done)|(simp [*];done)),H',⟨by have:=HK1.out;omega⟩,⟨by (with_reducible repeat (first|refine bN ?_ _|refine bD ?_|refine bA ?_ _));exact Ba.out⟩,⟨by repeat (first|(with_reducible first|exact HB.out|apply oA|apply pN|apply o1|refine bS ?_ Bc.out)|exact HB.out)⟩⟩
   rw [if_pos c11] at H
   have c11b0:((rd l0_1 x12_1) == 0)=true:=beq_iff_eq.mpr c11
   have c11b1:((rd l0_1 x12_1) != 0)=false:=bne_eq_false_iff_eq.mpr c11
   clear c11
   have H':=Am H
   clear H
   have p110:0≤(x12_1:Int):=oE (by first|(with_reducible assumption)|assumption)
   have q110:x12_1<(l0_1.length:Int):=oE (by first|(with_reducible assumption)|assumption)
   obtain ⟨ad110,e110,hx110_0⟩:=Kd.at_int HR0_1.out x12_1 p110 q110
   cases e110
   replace hx110_0:=(bW HB hx110_0:)
   replace p110:=eq_true p110
   replace q110:=eq_true q110
   go_wp2
   go_roundg k1
   case measure=>have:=HK1.out;omega
   case rel=>exact ⟨(wrap64 (x3_1 + 1)),(wrap64 (x12_1 + 1)),(by first|rfl|(simp;done)|(simp [*];done)),(by first|rfl|(simp;done)|(simp [*];done)),H',⟨by have:=HK1.out;omega⟩,⟨by (with_reducible repeat (first|refine bN ?_ _|refine bD ?_|refine bA ?_ _));exact Ba.out⟩,⟨by repeat (first|(with_reducible first|exact HB.out|apply oA|apply pN|apply o1|refine bS ?_ Bc.out)|exact HB.out)⟩⟩/-! ### impl_Pages_free: function 44 -/
def impl_Pages_free.l0 : Nat → List Int → Int → Int → Option (Int)
|0, _, _, _ => none
|k + 1, x6, x7, x8 => if x8 < x7 then (if 0 ≤ x8 then (if x8 < (x6.length : Int) then (if (rd x6 x8) = 0 then (some x8) else (impl_Pages_free.l0 k x6 x7 (wrap64 (x8 + 1)))) else (none)) else (none)) else (some (-1))
def impl_Pages_free.f (k : Nat) (l0_0 : List ByteArray) (l0_1 : List Int) : Option (Int) := impl_Pages_free.l0 k l0_1 (l0_1.length : Int) 0
theorem impl_Pages_free.mono_l : ∀ k, (∀ y0 y1 y2, LeO (impl_Pages_free.l0 k y0 y1 y2) (impl_Pages_free.l0 (k + 1) y0 y1 y2))
|0 => fun _ _ _ r h => by simp [impl_Pages_free.l0] at h
|k + 1 => by
  have ih0 := impl_Pages_free.mono_l k
  ·intro y0 y1 y2
   unfold impl_Pages_free.l0
   repeat' first
  |(with_reducible exact ih0 _ _ _)
  |(with_reducible exact LeO.refl _)
  |(with_reducible exact LeO.none _)
  |(with_reducible refine LeO.ite ?_ ?_)
  |(with_reducible refine LeO.bind ?_ (fun _ => ?_))
  |exact ih0 _ _ _
  |exact LeO.none _
  |refine LeO.ite ?_ ?_
  |refine LeO.bind ?_ (fun _ => ?_)
theorem impl_Pages_free.mono : ∀ a0 a1 k, LeO (impl_Pages_free.f k a0 a1) (impl_Pages_free.f (k + 1) a0 a1) := by
 intro a0 a1 k
 have ih0 := impl_Pages_free.mono_l k
 unfold impl_Pages_free.f
 repeat' first
  |(with_reducible exact ih0 _ _ _)
  |(with_reducible exact LeO.refl _)
  |(with_reducible exact LeO.none _)
  |(with_reducible refine LeO.ite ?_ ?_)
  |(with_reducible refine LeO.bind ?_ (fun _ => ?_))
  |exact ih0 _ _ _
  |exact LeO.none _
  |refine LeO.ite ?_ ?_
  |refine LeO.bind ?_ (fun _ => ?_)
set_option maxHeartbeats 2000000 in
set_option maxRecDepth 100000 in
theorem impl_Pages_free.calls (k:Nat) (A0_0:Option Addr) (c0_0:Nat) (l0_0:List ByteArray) (A0_1:Option Addr) (c0_1:Nat) (l0_1:List Int) (r:Int) (w:World) (hr0_0:Kd.C Kd.string w A0_0 l0_0.length l0_0) (hc0_0:l0_0.length≤c0_0) (hr0_1:Kd.C (Kd.int .i64) w A0_1 l0_1.length l0_1) (hc0_1:l0_1.length≤c0_1) (h:impl_Pages_free.f k l0_0 l0_1=some r) :
  Calls Try.prog 44 #[.agg #[.slice A0_0 l0_0.length c0_0,.slice A0_1 l0_1.length c0_1]] w fun e w'=>e=.returned (.int .i64 r)∧Below w.heap.size w w':=by
 have hu26:=Try.underlying26
 have HR0_0:=Am hr0_0
 have HC0_0:=Am hc0_0
 clear hr0_0 hc0_0
 have HR0_1:=Am hr0_1
 have HC0_1:=Am hc0_1
 clear hr0_1 hc0_1
 have HB:=Am (bJ w.heap.size w)
 have H:(impl_Pages_free.l0 k l0_1 (l0_1.length:Int) 0)=some r:=h
 clear h
 have H':=Am H
 clear H
 go_enter Try.func44,Try.ntmps44
 go_wp2_with (first|((with_reducible refine gD (N:=1) rfl ?_);refine bI ?hg (N:=1) ?hd (cs:=#[.slice A0_0 l0_0.length c0_0,.slice A0_1 l0_1.length c0_1]) (t:=26) ?hr ?_;(case hd=>rfl);(case hg=>rfl);(case hr=>first|(go_simp;done)|(go_simp;rfl));intro Bb hg w2 hbox hb;have n0_:=Am (bP (by repeat (first|(with_reducible first|exact HB.out|apply oA|apply pN|apply o1)|exact HB.out)) hb);have n1_:=Am (hbox);have n2_:=Am ((by rw [hg];exact (bZ (by repeat (first|(with_reducible first|exact HB.out|apply oA|apply pN|apply o1)|exact HB.out))):w.heap.size≤Bb));have n3_:=Am ((by rw [hg];exact (bZ (by repeat (first|(with_reducible first|exact HB.out|apply oA|apply pN|apply o1)|exact HB.out))):w.heap.size≤Bb));clear HB;revert n0_ n1_ n2_ n3_;intro HB Ba Bh Bc;clear hb hbox hg;have Bd:=cz0 Ba.out;have Be:=cz1 Ba.out;have Bf:=bF Ba.out 0;have Bg:=bF Ba.out 1))
 go_loopg [8] k (fun kq v8 w'=>∃ (x8_1:Int),v8=.int .i64 x8_1∧Aside0 (impl_Pages_free.l0 kq l0_1 (l0_1.length:Int) x8_1=some r)∧Aside0 (kq≤k)∧Aside0 (w'.heap[Bb]?=some (.cells #[(.slice A0_0 l0_0.length c0_0),(.slice A0_1 l0_1.length c0_1)] 26 (0,0)))∧Aside0 (Below w.heap.size w w'))
 case atStart=>exact ⟨(0),(by first|rfl|(simp;done)|(simp [*];done)),H',⟨nR _⟩,⟨by (with_reducible repeat (first|refine bN ?_ _|refine bD ?_|refine bA ?_ _));exact Ba.out⟩,⟨by repeat (first|(with_reducible first|exact HB.out|apply oA|apply pN|apply o1|refine bS ?_ Bc.out)|exact HB.out)⟩⟩
 case round =>
  clear H'
  try clear p2
  try clear Bd
  try clear Be
  try clear Bf
  try clear Bg
  obtain ⟨x8_1,rfl,HA,HK1,Ba,HB⟩:=hrel
  cases gk with
 |zero=>exact absurd HA.out (by simp [impl_Pages_free.l0])
 |succ k1 =>
   have H:=HA.out
   clear HA
   simp only [impl_Pages_free.l0] at H
   by_cases c4:x8_1<(l0_1.length:Int)
   rotate_left
   ·rw [if_neg c4] at H
    have c4b0:decide (x8_1<(l0_1.length:Int))=false:=dF c4
    clear c4
    obtain rfl:=oJ H
    go_wp2
    go_ret
    exact ⟨by first|rfl|(simp [errW_none,errW_some] <;> rfl)|(simp [*,errW_none,errW_some] <;> rfl),by repeat (first|(with_reducible first|exact HB.out|apply oA|apply pN|apply o1|refine bS ?_ Bc.out)|exact HB.out)⟩

   rw [if_pos c4] at H
   have c4b0:decide (x8_1<(l0_1.length:Int))=true:=dT c4
   clear c4
   by_cases c5:0≤x8_1
   rotate_left
   ·rw [if_neg c5] at H
    exact absurd H (by simp)
   rw [if_pos c5] at H
   have c5b0:decide (0≤x8_1)=true:=dT c5
   clear c5
   by_cases c6:x8_1<(l0_1.length:Int)
   rotate_left
   ·rw [if_neg c6] at H
    exact absurd H (by simp)
   rw [if_pos c6] at H
   have c6b0:decide (x8_1<(l0_1.length:Int))=true:=dT c6
   clear c6
   by_cases c7:(rd l0_1 x8_1)=0
   ·rw [if_pos c7] at H
    have c7b0:((rd l0_1 x8_1) == 0)=true:=beq_iff_eq.mpr c7
    have c7b1:((rd l0_1 x8_1) != 0)=false:=bne_eq_false_iff_eq.mpr c7
    clear c7
    obtain rfl:=oJ H
    have p112:0≤(x8_1:Int):=oE (by first|(with_reducible assumption)|assumption)
    have q112:x8_1<(l0_1.length:Int):=oE (by first|(with_reducible assumption)|assumption)
    obtain ⟨ad112,e112,hx112_0⟩:=Kd.at_int HR0_1.out x8_1 p112 q112
    cases e112
    replace hx112_0:=(bW HB hx112_0:)
    replace p112:=eq_true p112
    replace q112:=eq_true q112
    go_wp2
    go_ret
    exact ⟨by first|rfl|(simp [errW_none,errW_some] <;> rfl)|(simp [*,errW_none,errW_some] <;> rfl),by repeat (first|(with_reducible first|exact HB.out|apply oA|apply pN|apply o1|refine bS ?_ Bc.out)|exact HB.out)⟩
   rw [if_neg c7] at H
   have c7b0:((rd l0_1 x8_1) == 0)=false:=beq_eq_false_iff_ne.mpr c7
   have c7b1:((rd l0_1 x8_1) != 0)=true:=bne_iff_ne.mpr c7
   have H':=Am H
   clear H
   have p112:0≤(x8_1:Int):=oE (by first|(with_reducible assumption)|assumption)
   have q112:x8_1<(l0_1.length:Int):=oE (by first|(with_reducible assumption)|assumption)
   obtain ⟨ad112,e112,hx112_0⟩:=Kd.at_int HR0_1.out x8_1 p112 q112
   cases e112
   replace hx112_0:=(bW HB hx112_0:)
   replace p112:=eq_true p112
   replace q112:=eq_true q112
   go_wp2
   go_roundg k1
   case measure=>have:=HK1.out;omega
   case rel=>exact ⟨(wrap64 (x8_1 + 1)),(by first|rfl|(simp;done)|(simp [*];done)),H',⟨by have:=HK1.out;omega⟩,⟨by (with_reducible repeat (first|refine bN ?_ _|refine bD ?_|refine bA ?_ _));exact Ba.out⟩,⟨by repeat (first|(with_reducible first|exact HB.out|apply oA|apply pN|apply o1|refine bS ?_ Bc.out)|exact HB.out)⟩⟩
end Go.Proofs.Ytpdfkbggaihfpaa.PFnPagesTake
