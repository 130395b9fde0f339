/- Proved here, without a condition beyond those that each theorem states: what the Go functions named below do is what the plain functions of the same names say. Written by xprint.py, a program of this session. -/
import Derived.Test.YtpdfkbggaihfpaaPFnPagesRoomx0
import Derived.Test.YtpdfkbggaihfpaaPFnPagesRoomx8
namespace Go.Proofs.Ytpdfkbggaihfpaa.PFnPagesRoom
open Go.RowKit Go.Proofs.YtpdfkbggaihfpaaW.PrintWords Go.Proofs.YtpdfkbggaihfpaaW.PrintLast Go.Proofs.YtpdfkbggaihfpaaW.PrintMore
attribute [local go_sem] max2_int min2_int max_two min_two max_three min_three max_four min_four   -- for this text's walks alone
set_option linter.unusedVariables false
set_option linter.unusedSimpArgs false

attribute [local go_sem ↓] isSome_setCell_
/-! ### spec_l1Room: function 43 -/
def spec_l1Room.l0 : Nat → Int → Int → List ByteArray → List Int → Option (Int)
|0, _, _, _, _ => none
|k + 1, x3, x4, x217000, x217001 => if x4 < (x217001.length : Int) then (if 0 ≤ x4 then (if (rd x217001 x4) = 0 then (spec_l1Room.l0 k (wrap64 (x3 + 1)) (wrap64 (x4 + 1)) x217000 x217001) else (spec_l1Room.l0 k x3 (wrap64 (x4 + 1)) x217000 x217001)) else (none)) else (some x3)
def spec_l1Room.f (k : Nat) (l0_0 : List ByteArray) (l0_1 : List Int) : Option (Int) := spec_l1Room.l0 k 0 0 l0_0 l0_1
theorem spec_l1Room.mono_l : ∀ k, (∀ y0 y1 y2 y3, LeO (spec_l1Room.l0 k y0 y1 y2 y3) (spec_l1Room.l0 (k + 1) y0 y1 y2 y3))
|0 => fun _ _ _ _ r h => by simp [spec_l1Room.l0] at h
|k + 1 => by
  have ih0 := spec_l1Room.mono_l k
  ·intro y0 y1 y2 y3
   unfold spec_l1Room.l0
   repeat' first
  |(with_reducible exact ih0 _ _ _ _)
  |(with_reducible exact LeO.refl _)
  |(with_reducible exact LeO.none _)
  |(with_reducible refine LeO.ite ?_ ?_)
  |(with_reducible refine LeO.bind ?_ (fun _ => ?_))
  |exact ih0 _ _ _ _
  |exact LeO.none _
  |refine LeO.ite ?_ ?_
  |refine LeO.bind ?_ (fun _ => ?_)
theorem spec_l1Room.mono : ∀ a0 a1 k, LeO (spec_l1Room.f k a0 a1) (spec_l1Room.f (k + 1) a0 a1) := by
 intro a0 a1 k
 have ih0 := spec_l1Room.mono_l k
 unfold spec_l1Room.f
 repeat' first
  |(with_reducible exact ih0 _ _ _ _)
  |(with_reducible exact LeO.refl _)
  |(with_reducible exact LeO.none _)
  |(with_reducible refine LeO.ite ?_ ?_)
  |(with_reducible refine LeO.bind ?_ (fun _ => ?_))
  |exact ih0 _ _ _ _
  |exact LeO.none _
  |refine LeO.ite ?_ ?_
  |refine LeO.bind ?_ (fun _ => ?_)
set_option maxHeartbeats 2000000 in
set_option maxRecDepth 100000 in
theorem spec_l1Room.calls (k:Nat) (A0_0:Option Addr) (c0_0:Nat) (l0_0:List ByteArray) (A0_1:Option Addr) (c0_1:Nat) (l0_1:List Int) (r:Int) (w:World) (hr0_0:Kd.C Kd.string w A0_0 l0_0.length l0_0) (hc0_0:l0_0.length≤c0_0) (hr0_1:Kd.C (Kd.int .i64) w A0_1 l0_1.length l0_1) (hc0_1:l0_1.length≤c0_1) (h:spec_l1Room.f k l0_0 l0_1=some r) :
  Calls Try.prog 43 #[.agg #[.slice A0_0 l0_0.length c0_0,.slice A0_1 l0_1.length c0_1]] w fun e w'=>e=.returned (.int .i64 r)∧Below w.heap.size w w':=by
 have hu26:=Try.underlying26
 have HR0_0:=Am hr0_0
 have HC0_0:=Am hc0_0
 clear hr0_0 hc0_0
 have HR0_1:=Am hr0_1
 have HC0_1:=Am hc0_1
 clear hr0_1 hc0_1
 have HB:=Am (Below.refl w.heap.size w)
 have H:(spec_l1Room.l0 k 0 0 l0_0 l0_1)=some r:=h
 clear h
 have H':=Am H
 clear H
 go_enter Try.func43,Try.ntmps43
 go_wp2_with (first|((with_reducible refine gate_dst (N:=1) rfl ?_);refine box_event ?hg (N:=1) ?hd (cs:=#[.slice A0_0 l0_0.length c0_0,.slice A0_1 l0_1.length c0_1]) (t:=26) ?hr ?_;(case hd=>rfl);(case hg=>rfl);(case hr=>first|(go_simp;done)|(go_simp;rfl));intro Bb hg w2 hbox hb;have n0_:=Am (bP (by repeat (first|(with_reducible first|exact HB.out|apply oA|apply pN|apply o1)|exact HB.out)) hb);have n1_:=Am (hbox);have n2_:=Am ((by rw [hg];exact (bZ (by repeat (first|(with_reducible first|exact HB.out|apply oA|apply pN|apply o1)|exact HB.out))):w.heap.size≤Bb));have n3_:=Am ((by rw [hg];exact (bZ (by repeat (first|(with_reducible first|exact HB.out|apply oA|apply pN|apply o1)|exact HB.out))):w.heap.size≤Bb));clear HB;revert n0_ n1_ n2_ n3_;intro HB Ba Bp Bc;clear hb hbox hg))
 go_loopg [3,4] k (fun kq v3 v4 w'=>∃ (x3_1:Int) (x4_1:Int),v3=.int .i64 x3_1∧v4=.int .i64 x4_1∧Aside0 (spec_l1Room.l0 kq x3_1 x4_1 l0_0 l0_1=some r)∧Aside0 (kq≤k)∧Aside0 (w'.heap[Bb]?=some (.cells #[(.slice A0_0 l0_0.length c0_0),(.slice A0_1 l0_1.length c0_1)] 26 (0,0)))∧Aside0 (Below w.heap.size w w'))
 case atStart=>exact ⟨(0),(0),(by first|rfl|(simp;done)|(simp [*];done)),(by first|rfl|(simp;done)|(simp [*];done)),H',⟨Nat.le_refl _⟩,⟨by (with_reducible repeat (first|refine bN ?_ _|refine bD ?_|refine bA ?_ _));exact Ba.out⟩,⟨by repeat (first|(with_reducible first|exact HB.out|apply oA|apply pN|apply o1|refine bS ?_ Bc.out)|exact HB.out)⟩⟩
 case round =>
  clear H'
  try clear p2
  obtain ⟨x3_1,x4_1,rfl,rfl,HA,HK1,Ba,HB⟩:=hrel
  cases gk with
 |zero=>exact absurd HA.out (by simp [spec_l1Room.l0])
 |succ k1 =>
   have H:=HA.out
   clear HA
   simp only [spec_l1Room.l0] at H
   by_cases c3:x4_1<(l0_1.length:Int)
   rotate_left
   ·rw [if_neg c3] at H
    have c3b0:decide (x4_1<(l0_1.length:Int))=false:=decide_eq_false c3
    clear c3
    obtain rfl:=Option.some.inj H
    have Bl:=cz0 Ba.out
    have Bm:=cz1 Ba.out
    have Bn:=bF Ba.out 0
    have Bo:=bF Ba.out 1
    go_wp2
    go_ret
    exact ⟨by first|rfl|(simp [errW_none,errW_some] <;> rfl)|(simp [*,errW_none,errW_some] <;> rfl),by repeat (first|(with_reducible first|exact HB.out|apply oA|apply pN|apply o1|refine bS ?_ Bc.out)|exact HB.out)⟩


   rw [if_pos c3] at H
   have c3b0:decide (x4_1<(l0_1.length:Int))=true:=decide_eq_true c3
   clear c3
   by_cases c4:0≤x4_1
   rotate_left
   ·rw [if_neg c4] at H
    exact absurd H (by simp)
   rw [if_pos c4] at H
   have c4b0:decide (0≤x4_1)=true:=decide_eq_true c4
   clear c4
   by_cases c5:(rd l0_1 x4_1)=0
   rotate_left
   ·rw [if_neg c5] at H
    have c5b0:((rd l0_1 x4_1) == 0)=false:=beq_eq_false_iff_ne.mpr c5
    have c5b1:((rd l0_1 x4_1) != 0)=true:=bne_iff_ne.mpr c5
    have H':=Am H
    clear H
    have Bh:=cz0 Ba.out
    have Bi:=cz1 Ba.out
    have Bj:=bF Ba.out 0
    have Bk:=bF Ba.out 1
    have p217:0≤(x4_1:Int):=of_decide_eq_true (by first|(with_reducible assumption)|assumption)
    have q217:x4_1<(l0_1.length:Int):=of_decide_eq_true (by first|(with_reducible assumption)|assumption)
    obtain ⟨ad217,e217,hx217_0⟩:=Kd.at_int HR0_1.out x4_1 p217 q217
    cases e217
    replace hx217_0:=(bW HB hx217_0:)
    replace p217:=eq_true p217
    replace q217:=eq_true q217
    go_wp2
    go_roundg k1
    case measure=>have:=HK1.out;omega
    case rel=>exact ⟨(x3_1),(wrap64 (x4_1 + 1)),(by first|rfl|(simp;done)|(simp [*];done)),(by first|rfl|(simp;done)|(simp [*];done)),H',⟨by have:=HK1.out;omega⟩,⟨by (with_reducible repeat (first|refine bN ?_ _|refine bD ?_|refine bA ?_ _));exact Ba.out⟩,⟨by repeat (first|(with_reducible first|exact HB.out|apply oA|apply pN|apply o1|refine bS ?_ Bc.out)|exact HB.out)⟩⟩
   rw [if_pos c5] at H
   have c5b0:((rd l0_1 x4_1) == 0)=true:=beq_iff_eq.mpr c5
   have c5b1:((rd l0_1 x4_1) != 0)=false:=bne_eq_false_iff_eq.mpr c5
   clear c5
   have H':=Am H
   clear H
   have Bd:=cz0 Ba.out
   have Be:=cz1 Ba.out
   have Bf:=bF Ba.out 0
   have Bg:=bF Ba.out 1
   have p217:0≤(x4_1:Int):=of_decide_eq_true (by first|(with_reducible assumption)|assumption)
   have q217:x4_1<(l0_1.length:Int):=of_decide_eq_true (by first|(with_reducible assumption)|assumption)
   obtain ⟨ad217,e217,hx217_0⟩:=Kd.at_int HR0_1.out x4_1 p217 q217
   cases e217
   replace hx217_0:=(bW HB hx217_0:)
   replace p217:=eq_true p217
   replace q217:=eq_true q217
   go_wp2
   go_roundg k1
   case measure=>have:=HK1.out;omega
   case rel=>exact ⟨(wrap64 (x3_1 + 1)),(wrap64 (x4_1 + 1)),(by first|rfl|(simp;done)|(simp [*];done)),(by first|rfl|(simp;done)|(simp [*];done)),H',⟨by have:=HK1.out;omega⟩,⟨by (with_reducible repeat (first|refine bN ?_ _|refine bD ?_|refine bA ?_ _));exact Ba.out⟩,⟨by repeat (first|(with_reducible first|exact HB.out|apply oA|apply pN|apply o1|refine bS ?_ Bc.out)|exact HB.out)⟩⟩/-! ### spec_PagesRoom: function 14 -/
def spec_PagesRoom.f (k : Nat) (l0_0 : List ByteArray) (l0_1 : List Int) : Option (Int) := (spec_PagesOk.f k l0_0 l0_1).bind fun t219 => (if t219 = true then ((spec_l1Room.f k l0_0 l0_1).bind fun t220 => (some t220)) else (some (-1)))
theorem spec_PagesRoom.mono : ∀ a0 a1 k, LeO (spec_PagesRoom.f k a0 a1) (spec_PagesRoom.f (k + 1) a0 a1) := by
 intro a0 a1 k
 unfold spec_PagesRoom.f
 repeat' first
  |(with_reducible exact spec_PagesOk.mono _ _ _)
  |(with_reducible exact spec_l1Room.mono _ _ _)
  |(with_reducible exact LeO.refl _)
  |(with_reducible exact LeO.none _)
  |(with_reducible refine LeO.ite ?_ ?_)
  |(with_reducible refine LeO.bind ?_ (fun _ => ?_))
  |exact spec_PagesOk.mono _ _ _
  |exact spec_l1Room.mono _ _ _
  |exact LeO.none _
  |refine LeO.ite ?_ ?_
  |refine LeO.bind ?_ (fun _ => ?_)
set_option maxHeartbeats 2000000 in
set_option maxRecDepth 100000 in
theorem spec_PagesRoom.calls (k:Nat) (A0_0:Option Addr) (c0_0:Nat) (l0_0:List ByteArray) (A0_1:Option Addr) (c0_1:Nat) (l0_1:List Int) (r:Int) (w:World) (hr0_0:Kd.C Kd.string w A0_0 l0_0.length l0_0) (hc0_0:l0_0.length≤c0_0) (hr0_1:Kd.C (Kd.int .i64) w A0_1 l0_1.length l0_1) (hc0_1:l0_1.length≤c0_1) (h:spec_PagesRoom.f k l0_0 l0_1=some r) :
  Calls Try.prog 14 #[.agg #[.slice A0_0 l0_0.length c0_0,.slice A0_1 l0_1.length c0_1]] w fun e w'=>e=.returned (.int .i64 r)∧Below w.heap.size w w':=by
 have hu26:=Try.underlying26
 have HR0_0:=Am hr0_0
 have HC0_0:=Am hc0_0
 clear hr0_0 hc0_0
 have HR0_1:=Am hr0_1
 have HC0_1:=Am hc0_1
 clear hr0_1 hc0_1
 have HB:=Am (Below.refl w.heap.size w)
 have H:((spec_PagesOk.f k l0_0 l0_1).bind fun t219=>(if t219=true then ((spec_l1Room.f k l0_0 l0_1).bind fun t220=>(some t220)) else (some (-1))))=some r:=h
 clear h
 replace H:=oC H
 obtain ⟨t219,A20,H⟩:=H
 replace H:(if t219=true then ((spec_l1Room.f k l0_0 l0_1).bind fun t220=>(some t220)) else (some (-1)))=some r:=H
 have A2:=Am A20
 clear A20
 by_cases c3:t219=true
 rotate_left
 ·replace c3:=Bool.eq_false_iff.mpr c3
  subst c3
  have H1:(some (-1))=some r:=by rw [if_neg (show ¬ (false=true) by decide)] at H;exact H
  clear H
  have H:=H1
  clear H1
  obtain rfl:=Option.some.inj H
  go_enter Try.func14,Try.ntmps14
  go_wp2_with (first|((with_reducible refine gate_dst (N:=1) rfl ?_);refine box_event ?hg (N:=1) ?hd (cs:=#[.slice A0_0 l0_0.length c0_0,.slice A0_1 l0_1.length c0_1]) (t:=26) ?hr ?_;(case hd=>rfl);(case hg=>rfl);(case hr=>first|(go_simp;done)|(go_simp;rfl));intro Bb hg w10 hbox hb;have n0_:=Am (bP (by repeat (first|(with_reducible first|exact HB.out|apply oA|apply pN|apply o1)|exact HB.out)) hb);have n1_:=Am (hbox);have n2_:=Am ((by rw [hg];exact (bZ (by repeat (first|(with_reducible first|exact HB.out|apply oA|apply pN|apply o1)|exact HB.out))):w.heap.size≤Bb));have n3_:=Am ((by rw [hg];exact (bZ (by repeat (first|(with_reducible first|exact HB.out|apply oA|apply pN|apply o1)|exact HB.out))):w.heap.size≤Bb));clear HB;revert n0_ n1_ n2_ n3_;intro HB Ba Bd Bc;clear hb hbox hg;have Be:=cz0 Ba.out;have Bf:=cz1 Ba.out;have Bg:=bF Ba.out 0;have Bh:=bF Ba.out 1)|((with_reducible refine gate_callee (f:=42) rfl ?_);refine goesL_ (some 4) rfl rfl Try.func42 (by kernel_rfl) rfl #[.agg #[.slice A0_0 l0_0.length c0_0,.slice A0_1 l0_1.length c0_1]] rfl (by (try simp only [lM,lC,lN]);first|done|rfl|(simp only [lD,lT];rfl)) ?_;(with_reducible refine (spec_PagesOk.calls k _ _ l0_0 _ _ l0_1 false _ ?side1 ?side2 ?side3 ?side4 A2.out).mono ?_);(case side1=>repeat (first|exact (cB HR0_0.out HB.out)|(with_reducible refine cA ?_ _)|(with_reducible refine cN ?_ _)|(with_reducible refine cD ?_)));(case side2=>exact HC0_0.out);(case side3=>repeat (first|exact (cB HR0_1.out HB.out)|(with_reducible refine cA ?_ _)|(with_reducible refine cN ?_ _)|(with_reducible refine cD ?_)));(case side4=>exact HC0_1.out);rintro e w12 ⟨rfl,hb⟩;refine ⟨_,rfl,?_⟩;have n0_:=Am (bX Ba.out hb);have n1_:=Am (bP (by repeat (first|(with_reducible first|exact HB.out|apply oA|apply pN|apply o1|refine bS ?_ Bc.out)|exact HB.out)) hb);clear Ba HB;revert n0_ n1_;intro Ba HB;(try clear hb);(try clear hb2);(try clear hk);(try clear hi)))
  go_ret
  exact ⟨by first|rfl|(simp [errW_none,errW_some] <;> rfl)|(simp [*,errW_none,errW_some] <;> rfl),by repeat (first|(with_reducible first|exact HB.out|apply oA|apply pN|apply o1|refine bS ?_ Bc.out)|exact HB.out)⟩


 subst c3
 have H1:((spec_l1Room.f k l0_0 l0_1).bind fun t220=>(some t220))=some r:=by rw [if_pos rfl] at H;exact H
 clear H
 have H:=H1
 clear H1
 replace H:=oC H
 obtain ⟨t220,A40,H⟩:=H
 replace H:(some t220)=some r:=H
 have A4:=Am A40
 clear A40
 obtain rfl:=Option.some.inj H
 go_enter Try.func14,Try.ntmps14
 go_wp2_with (first|((with_reducible refine gate_dst (N:=1) rfl ?_);refine box_event ?hg (N:=1) ?hd (cs:=#[.slice A0_0 l0_0.length c0_0,.slice A0_1 l0_1.length c0_1]) (t:=26) ?hr ?_;(case hd=>rfl);(case hg=>rfl);(case hr=>first|(go_simp;done)|(go_simp;rfl));intro Bb hg w5 hbox hb;have n0_:=Am (bP (by repeat (first|(with_reducible first|exact HB.out|apply oA|apply pN|apply o1)|exact HB.out)) hb);have n1_:=Am (hbox);have n2_:=Am ((by rw [hg];exact (bZ (by repeat (first|(with_reducible first|exact HB.out|apply oA|apply pN|apply o1)|exact HB.out))):w.heap.size≤Bb));have n3_:=Am ((by rw [hg];exact (bZ (by repeat (first|(with_reducible first|exact HB.out|apply oA|apply pN|apply o1)|exact HB.out))):w.heap.size≤Bb));clear HB;revert n0_ n1_ n2_ n3_;intro HB Ba Bd Bc;clear hb hbox hg;have Bi:=cz0 Ba.out;have Bj:=cz1 Ba.out;have Bk:=bF Ba.out 0;have Bl:=bF Ba.out 1)|((with_reducible refine gate_callee (f:=42) rfl ?_);refine goesL_ (some 4) rfl rfl Try.func42 (by kernel_rfl) rfl #[.agg #[.slice A0_0 l0_0.length c0_0,.slice A0_1 l0_1.length c0_1]] rfl (by (try simp only [lM,lC,lN]);first|done|rfl|(simp only [lD,lT];rfl)) ?_;(with_reducible refine (spec_PagesOk.calls k _ _ l0_0 _ _ l0_1 true _ ?side1 ?side2 ?side3 ?side4 A2.out).mono ?_);(case side1=>repeat (first|exact (cB HR0_0.out HB.out)|(with_reducible refine cA ?_ _)|(with_reducible refine cN ?_ _)|(with_reducible refine cD ?_)));(case side2=>exact HC0_0.out);(case side3=>repeat (first|exact (cB HR0_1.out HB.out)|(with_reducible refine cA ?_ _)|(with_reducible refine cN ?_ _)|(with_reducible refine cD ?_)));(case side4=>exact HC0_1.out);rintro e w7 ⟨rfl,hb⟩;refine ⟨_,rfl,?_⟩;have n0_:=Am (bX Ba.out hb);have n1_:=Am (bP (by repeat (first|(with_reducible first|exact HB.out|apply oA|apply pN|apply o1|refine bS ?_ Bc.out)|exact HB.out)) hb);clear Ba HB;revert n0_ n1_;intro Ba HB;(try clear hb);(try clear hb2);(try clear hk);(try clear hi);have Bm:=cz0 Ba.out;have Bn:=cz1 Ba.out;have Bo:=bF Ba.out 0;have Bp:=bF Ba.out 1)|((with_reducible refine gate_callee (f:=43) rfl ?_);refine goesL_ (some 7) rfl rfl Try.func43 (by kernel_rfl) rfl #[.agg #[.slice A0_0 l0_0.length c0_0,.slice A0_1 l0_1.length c0_1]] rfl (by (try simp only [lM,lC,lN]);first|done|rfl|(simp only [lD,lT];rfl)) ?_;(with_reducible refine (spec_l1Room.calls k _ _ l0_0 _ _ l0_1 t220 _ ?side1 ?side2 ?side3 ?side4 A4.out).mono ?_);(case side1=>repeat (first|exact (cB HR0_0.out HB.out)|(with_reducible refine cA ?_ _)|(with_reducible refine cN ?_ _)|(with_reducible refine cD ?_)));(case side2=>exact HC0_0.out);(case side3=>repeat (first|exact (cB HR0_1.out HB.out)|(with_reducible refine cA ?_ _)|(with_reducible refine cN ?_ _)|(with_reducible refine cD ?_)));(case side4=>exact HC0_1.out);rintro e w9 ⟨rfl,hb⟩;refine ⟨_,rfl,?_⟩;have n0_:=Am (bX Ba.out hb);have n1_:=Am (bP (by repeat (first|(with_reducible first|exact HB.out|apply oA|apply pN|apply o1|refine bS ?_ Bc.out)|exact HB.out)) hb);clear Ba HB;revert n0_ n1_;intro Ba HB;(try clear hb);(try clear hb2);(try clear hk);(try clear hi)))
 go_ret
 exact ⟨by first|rfl|(simp [errW_none,errW_some] <;> rfl)|(simp [*,errW_none,errW_some] <;> rfl),by repeat (first|(with_reducible first|exact HB.out|apply oA|apply pN|apply o1|refine bS ?_ Bc.out)|exact HB.out)⟩/-! ### impl_Pages_free: function 44 -/
def impl_Pages_free.l0 : Nat → List Int → Int → Int → Option (Int)
|0, _, _, _ => none
|k + 1, x6, x7, x8 => if x8 < x7 then (if 0 ≤ x8 then (if x8 < (x6.length : Int) then (if (rd x6 x8) = 0 then (some x8) else (impl_Pages_free.l0 k x6 x7 (wrap64 (x8 + 1)))) else (none)) else (none)) else (some (-1))
def impl_Pages_free.f (k : Nat) (l0_0 : List ByteArray) (l0_1 : List Int) : Option (Int) := impl_Pages_free.l0 k l0_1 (l0_1.length : Int) 0
theorem impl_Pages_free.mono_l : ∀ k, (∀ y0 y1 y2, LeO (impl_Pages_free.l0 k y0 y1 y2) (impl_Pages_free.l0 (k + 1) y0 y1 y2))
|0 => fun _ _ _ r h => by simp [impl_Pages_free.l0] at h
|k + 1 => by
  have ih0 := impl_Pages_free.mono_l k
  ·intro y0 y1 y2
   unfold impl_Pages_free.l0
   repeat' first
  |(with_reducible exact ih0 _ _ _)
  |(with_reducible exact LeO.refl _)
  |(with_reducible exact LeO.none _)
  |(with_reducible refine LeO.ite ?_ ?_)
  |(with_reducible refine LeO.bind ?_ (fun _ => ?_))
  |exact ih0 _ _ _
  |exact LeO.none _
  |refine LeO.ite ?_ ?_
  |refine LeO.bind ?_ (fun _ => ?_)
theorem impl_Pages_free.mono : ∀ a0 a1 k, LeO (impl_Pages_free.f k a0 a1) (impl_Pages_free.f (k + 1) a0 a1) := by
 intro a0 a1 k
 have ih0 := impl_Pages_free.mono_l k
 unfold impl_Pages_free.f
 repeat' first
  |(with_reducible exact ih0 _ _ _)
  |(with_reducible exact LeO.refl _)
  |(with_reducible exact LeO.none _)
  |(with_reducible refine LeO.ite ?_ ?_)
  |(with_reducible refine LeO.bind ?_ (fun _ => ?_))
  |exact ih0 _ _ _
  |exact LeO.none _
  |refine LeO.ite ?_ ?_
  |refine LeO.bind ?_ (fun _ => ?_)
set_option maxHeartbeats 2000000 in
set_option maxRecDepth 100000 in
theorem impl_Pages_free.calls (k:Nat) (A0_0:Option Addr) (c0_0:Nat) (l0_0:List ByteArray) (A0_1:Option Addr) (c0_1:Nat) (l0_1:List Int) (r:Int) (w:World) (hr0_0:Kd.C Kd.string w A0_0 l0_0.length l0_0) (hc0_0:l0_0.length≤c0_0) (hr0_1:Kd.C (Kd.int .i64) w A0_1 l0_1.length l0_1) (hc0_1:l0_1.length≤c0_1) (h:impl_Pages_free.f k l0_0 l0_1=some r) :
  Calls Try.prog 44 #[.agg #[.slice A0_0 l0_0.length c0_0,.slice A0_1 l0_1.length c0_1]] w fun e w'=>e=.returned (.int .i64 r)∧Below w.heap.size w w':=by
 have hu26:=Try.underlying26
 have HR0_0:=Am hr0_0
 have HC0_0:=Am hc0_0
 clear hr0_0 hc0_0
 have HR0_1:=Am hr0_1
 have HC0_1:=Am hc0_1
 clear hr0_1 hc0_1
 have HB:=Am (Below.refl w.heap.size w)
 have H:(impl_Pages_free.l0 k l0_1 (l0_1.length:Int) 0)=some r:=h
 clear h
 have H':=Am H
 clear H
 go_enter Try.func44,Try.ntmps44
 go_wp2_with (first|((with_reducible refine gate_dst (N:=1) rfl ?_);refine box_event ?hg (N:=1) ?hd (cs:=#[.slice A0_0 l0_0.length c0_0,.slice A0_1 l0_1.length c0_1]) (t:=26) ?hr ?_;(case hd=>rfl);(case hg=>rfl);(case hr=>first|(go_simp;done)|(go_simp;rfl));intro Bb hg w2 hbox hb;have n0_:=Am (bP (by repeat (first|(with_reducible first|exact HB.out|apply oA|apply pN|apply o1)|exact HB.out)) hb);have n1_:=Am (hbox);have n2_:=Am ((by rw [hg];exact (bZ (by repeat (first|(with_reducible first|exact HB.out|apply oA|apply pN|apply o1)|exact HB.out))):w.heap.size≤Bb));have n3_:=Am ((by rw [hg];exact (bZ (by repeat (first|(with_reducible first|exact HB.out|apply oA|apply pN|apply o1)|exact HB.out))):w.heap.size≤Bb));clear HB;revert n0_ n1_ n2_ n3_;intro HB Ba Bh Bc;clear hb hbox hg;have Bd:=cz0 Ba.out;have Be:=cz1 Ba.out;have Bf:=bF Ba.out 0;have Bg:=bF Ba.out 1))
 go_loopg [8] k (fun kq v8 w'=>∃ (x8_1:Int),v8=.int .i64 x8_1∧Aside0 (impl_Pages_free.l0 kq l0_1 (l0_1.length:Int) x8_1=some r)∧Aside0 (kq≤k)∧Aside0 (w'.heap[Bb]?=some (.cells #[(.slice A0_0 l0_0.length c0_0),(.slice A0_1 l0_1.length c0_1)] 26 (0,0)))∧Aside0 (Below w.heap.size w w'))
 case atStart=>exact ⟨(0),(by first|rfl|(simp;done)|(simp [*];done)),H',⟨Nat.le_refl _⟩,⟨by (with_reducible repeat (first|refine bN ?_ _|refine bD ?_|refine bA ?_ _));exact Ba.out⟩,⟨by repeat (first|(with_reducible first|exact HB.out|apply oA|apply pN|apply o1|refine bS ?_ Bc.out)|exact HB.out)⟩⟩
 case round =>
  clear H'
  try clear p2
  try clear Bd
  try clear Be
  try clear Bf
  try clear Bg
  obtain ⟨x8_1,rfl,HA,HK1,Ba,HB⟩:=hrel
  cases gk with
 |zero=>exact absurd HA.out (by simp [impl_Pages_free.l0])
 |succ k1 =>
   have H:=HA.out
   clear HA
   simp only [impl_Pages_free.l0] at H
   by_cases c4:x8_1<(l0_1.length:Int)
   rotate_left
   ·rw [if_neg c4] at H
    have c4b0:decide (x8_1<(l0_1.length:Int))=false:=decide_eq_false c4
    clear c4
    obtain rfl:=Option.some.inj H
    go_wp2
    go_ret
    exact ⟨by first|rfl|(simp [errW_none,errW_some] <;> rfl)|(simp [*,errW_none,errW_some] <;> rfl),by repeat (first|(with_reducible first|exact HB.out|apply oA|apply pN|apply o1|refine bS ?_ Bc.out)|exact HB.out)⟩

   rw [if_pos c4] at H
   have c4b0:decide (x8_1<(l0_1.length:Int))=true:=decide_eq_true c4
   clear c4
   by_cases c5:0≤x8_1
   rotate_left
   ·rw [if_neg c5] at H
    exact absurd H (by simp)
   rw [if_pos c5] at H
   have c5b0:decide (0≤x8_1)=true:=decide_eq_true c5
   clear c5
   by_cases c6:x8_1<(l0_1.length:Int)
   rotate_left
   ·rw [if_neg c6] at H
    exact absurd H (by simp)
   rw [if_pos c6] at H
   have c6b0:decide (x8_1<(l0_1.length:Int))=true:=decide_eq_true c6
   clear c6
   by_cases c7:(rd l0_1 x8_1)=0
   ·rw [if_pos c7] at H
    have c7b0:((rd l0_1 x8_1) == 0)=true:=beq_iff_eq.mpr c7
    have c7b1:((rd l0_1 x8_1) != 0)=false:=bne_eq_false_iff_eq.mpr c7
    clear c7
    obtain rfl:=Option.some.inj H
    have p222:0≤(x8_1:Int):=of_decide_eq_true (by first|(with_reducible assumption)|assumption)
    have q222:x8_1<(l0_1.length:Int):=of_decide_eq_true (by first|(with_reducible assumption)|assumption)
    obtain ⟨ad222,e222,hx222_0⟩:=Kd.at_int HR0_1.out x8_1 p222 q222
    cases e222
    replace hx222_0:=(bW HB hx222_0:)
    replace p222:=eq_true p222
    replace q222:=eq_true q222
    go_wp2
    go_ret
    exact ⟨by first|rfl|(simp [errW_none,errW_some] <;> rfl)|(simp [*,errW_none,errW_some] <;> rfl),by repeat (first|(with_reducible first|exact HB.out|apply oA|apply pN|apply o1|refine bS ?_ Bc.out)|exact HB.out)⟩
   rw [if_neg c7] at H
   have c7b0:((rd l0_1 x8_1) == 0)=false:=beq_eq_false_iff_ne.mpr c7
   have c7b1:((rd l0_1 x8_1) != 0)=true:=bne_iff_ne.mpr c7
   have H':=Am H
   clear H
   have p222:0≤(x8_1:Int):=of_decide_eq_true (by first|(with_reducible assumption)|assumption)
   have q222:x8_1<(l0_1.length:Int):=of_decide_eq_true (by first|(with_reducible assumption)|assumption)
   obtain ⟨ad222,e222,hx222_0⟩:=Kd.at_int HR0_1.out x8_1 p222 q222
   cases e222
   replace hx222_0:=(bW HB hx222_0:)
   replace p222:=eq_true p222
   replace q222:=eq_true q222
   go_wp2
   go_roundg k1
   case measure=>have:=HK1.out;omega
   case rel=>exact ⟨(wrap64 (x8_1 + 1)),(by first|rfl|(simp;done)|(simp [*];done)),H',⟨by have:=HK1.out;omega⟩,⟨by (with_reducible repeat (first|refine bN ?_ _|refine bD ?_|refine bA ?_ _));exact Ba.out⟩,⟨by repeat (first|(with_reducible first|exact HB.out|apply oA|apply pN|apply o1|refine bS ?_ Bc.out)|exact HB.out)⟩⟩
end Go.Proofs.Ytpdfkbggaihfpaa.PFnPagesRoom
