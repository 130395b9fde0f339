/- Proved here, without a condition beyond those that each theorem states: what the Go functions named below do is what the plain functions of the same names say. Written by xprint.py, a program of this session. -/
import Derived.Test.YtpdfkbggaihfpaaPFnPagesGivex0
import Derived.Test.YtpdfkbggaihfpaaPFnPagesGivex1
import Derived.Test.YtpdfkbggaihfpaaPFnPagesGivex4
namespace Go.Proofs.Ytpdfkbggaihfpaa.PFnPagesGive
open Go.RowKit Go.Proofs.YtpdfkbggaihfpaaW.PrintWords Go.Proofs.YtpdfkbggaihfpaaW.PrintLast Go.Proofs.YtpdfkbggaihfpaaW.PrintMore
attribute [local go_sem] max2_int min2_int max_two min_two max_three min_three max_four min_four   -- for this text's walks alone
set_option linter.unusedVariables false
set_option linter.unusedSimpArgs false

attribute [local go_sem ↓] isSome_setCell_
/-! ### impl_Pages_has: function 55 -/
def impl_Pages_has.f (l0_0 : List ByteArray) (l0_1 : List Int) (a1 : Int) : Option (Bool) := (impl_in.f a1 0 (wrap64 ((l0_1.length : Int) - 1))).bind fun t134 => (if t134 = true then (if 0 ≤ a1 then (if a1 < (l0_1.length : Int) then (some (decide ((rd l0_1 a1) > 0))) else (none)) else (none)) else (some false))
set_option maxHeartbeats 2000000 in
set_option maxRecDepth 100000 in
theorem impl_Pages_has.calls (A0_0:Option Addr) (c0_0:Nat) (l0_0:List ByteArray) (A0_1:Option Addr) (c0_1:Nat) (l0_1:List Int) (a1:Int) (r:Bool) (w:World) (hr0_0:Kd.C Kd.string w A0_0 l0_0.length l0_0) (hc0_0:l0_0.length≤c0_0) (hr0_1:Kd.C (Kd.int .i64) w A0_1 l0_1.length l0_1) (hc0_1:l0_1.length≤c0_1) (h:impl_Pages_has.f l0_0 l0_1 a1=some r) :
  Calls Try.prog 55 #[.agg #[.slice A0_0 l0_0.length c0_0,.slice A0_1 l0_1.length c0_1],.int .i64 a1] w fun e w'=>e=.returned (.bool r)∧Below w.heap.size w w':=by
 have hu26:=Try.underlying26
 have HR0_0:=Am hr0_0
 have HC0_0:=Am hc0_0
 clear hr0_0 hc0_0
 have HR0_1:=Am hr0_1
 have HC0_1:=Am hc0_1
 clear hr0_1 hc0_1
 have HB:=Am (Below.refl w.heap.size w)
 have H:((impl_in.f a1 0 (wrap64 ((l0_1.length:Int) - 1))).bind fun t134=>(if t134=true then (if 0≤a1 then (if a1<(l0_1.length:Int) then (some (decide ((rd l0_1 a1) > 0))) else (none)) else (none)) else (some false)))=some r:=h
 clear h
 replace H:=oC H
 obtain ⟨t134,A30,H⟩:=H
 replace H:(if t134=true then (if 0≤a1 then (if a1<(l0_1.length:Int) then (some (decide ((rd l0_1 a1) > 0))) else (none)) else (none)) else (some false))=some r:=H
 have A3:=Am A30
 clear A30
 by_cases c4:t134=true
 rotate_left
 ·replace c4:=Bool.eq_false_iff.mpr c4
  subst c4
  have H1:(some false)=some r:=by rw [if_neg (show ¬ (false=true) by decide)] at H;exact H
  clear H
  have H:=H1
  clear H1
  obtain rfl:=Option.some.inj H
  go_enter Try.func55,Try.ntmps55
  go_wp2_with (first|((with_reducible refine gate_dst (N:=2) rfl ?_);refine box_event ?hg (N:=2) ?hd (cs:=#[.slice A0_0 l0_0.length c0_0,.slice A0_1 l0_1.length c0_1]) (t:=26) ?hr ?_;(case hd=>rfl);(case hg=>rfl);(case hr=>first|(go_simp;done)|(go_simp;rfl));intro Ba hg w9 hbox hb;have n0_:=Am (bP (by repeat (first|(with_reducible first|exact HB.out|apply oA|apply pN|apply o1)|exact HB.out)) hb);have n1_:=Am (hbox);have n2_:=Am ((by rw [hg];exact (bZ (by repeat (first|(with_reducible first|exact HB.out|apply oA|apply pN|apply o1)|exact HB.out))):w.heap.size≤Ba));have n3_:=Am ((by rw [hg];exact (bZ (by repeat (first|(with_reducible first|exact HB.out|apply oA|apply pN|apply o1)|exact HB.out))):w.heap.size≤Ba));clear HB;revert n0_ n1_ n2_ n3_;intro HB Bb Bd Bc;clear hb hbox hg;have Be:=cz0 Bb.out;have Bf:=cz1 Bb.out;have Bg:=bF Bb.out 0;have Bh:=bF Bb.out 1)|((with_reducible refine gate_callee (f:=48) rfl ?_);refine goesL_ (some 10) rfl rfl Try.func48 (by kernel_rfl) rfl #[.int .i64 a1,.int .i64 0,.int .i64 (wrap64 ((l0_1.length:Int) - 1))] rfl (by (try simp only [lM,lC,lN]);first|done|rfl|(simp only [lD,lT];rfl)) ?_;(with_reducible refine (impl_in.calls a1 0 (wrap64 ((l0_1.length:Int) - 1)) false _ A3.out).mono ?_);rintro e w' ⟨rfl,⟨nd,rfl⟩⟩;refine ⟨_,rfl,?_⟩))
  go_ret
  exact ⟨by first|rfl|(simp [errW_none,errW_some] <;> rfl)|(simp [*,errW_none,errW_some] <;> rfl),by repeat (first|(with_reducible first|exact HB.out|apply oA|apply pN|apply o1|refine bS ?_ Bc.out)|exact HB.out)⟩

 subst c4
 have H1:(if 0≤a1 then (if a1<(l0_1.length:Int) then (some (decide ((rd l0_1 a1) > 0))) else (none)) else (none))=some r:=by rw [if_pos rfl] at H;exact H
 clear H
 have H:=H1
 clear H1
 by_cases c5:0≤a1
 rotate_left
 ·rw [if_neg c5] at H
  exact absurd H (by simp)
 rw [if_pos c5] at H
 have c5b0:decide (0≤a1)=true:=decide_eq_true c5
 clear c5
 by_cases c6:a1<(l0_1.length:Int)
 rotate_left
 ·rw [if_neg c6] at H
  exact absurd H (by simp)
 rw [if_pos c6] at H
 have c6b0:decide (a1<(l0_1.length:Int))=true:=decide_eq_true c6
 clear c6
 obtain rfl:=Option.some.inj H
 go_enter Try.func55,Try.ntmps55
 go_wp2_with (first|((with_reducible refine gate_dst (N:=2) rfl ?_);refine box_event ?hg (N:=2) ?hd (cs:=#[.slice A0_0 l0_0.length c0_0,.slice A0_1 l0_1.length c0_1]) (t:=26) ?hr ?_;(case hd=>rfl);(case hg=>rfl);(case hr=>first|(go_simp;done)|(go_simp;rfl));intro Ba hg w7 hbox hb;have n0_:=Am (bP (by repeat (first|(with_reducible first|exact HB.out|apply oA|apply pN|apply o1)|exact HB.out)) hb);have n1_:=Am (hbox);have n2_:=Am ((by rw [hg];exact (bZ (by repeat (first|(with_reducible first|exact HB.out|apply oA|apply pN|apply o1)|exact HB.out))):w.heap.size≤Ba));have n3_:=Am ((by rw [hg];exact (bZ (by repeat (first|(with_reducible first|exact HB.out|apply oA|apply pN|apply o1)|exact HB.out))):w.heap.size≤Ba));clear HB;revert n0_ n1_ n2_ n3_;intro HB Bb Bd Bc;clear hb hbox hg;have Bi:=cz0 Bb.out;have Bj:=cz1 Bb.out;have Bk:=bF Bb.out 0;have Bl:=bF Bb.out 1)|((with_reducible refine gate_callee (f:=48) rfl ?_);refine goesL_ (some 10) rfl rfl Try.func48 (by kernel_rfl) rfl #[.int .i64 a1,.int .i64 0,.int .i64 (wrap64 ((l0_1.length:Int) - 1))] rfl (by (try simp only [lM,lC,lN]);first|done|rfl|(simp only [lD,lT];rfl)) ?_;(with_reducible refine (impl_in.calls a1 0 (wrap64 ((l0_1.length:Int) - 1)) true _ A3.out).mono ?_);rintro e w' ⟨rfl,⟨nd,rfl⟩⟩;refine ⟨_,rfl,?_⟩;have p135:0≤(a1:Int):=of_decide_eq_true (by first|(with_reducible assumption)|assumption);have q135:a1<(l0_1.length:Int):=of_decide_eq_true (by first|(with_reducible assumption)|assumption);obtain ⟨ad135,e135,hx135_0⟩:=Kd.at_int HR0_1.out a1 p135 q135;cases e135;replace hx135_0:=(HB.out.cell (World.block_lt_of_cell? w _ hx135_0)).trans hx135_0;replace p135:=eq_true p135;replace q135:=eq_true q135))
 go_ret
 exact ⟨by first|rfl|(simp [errW_none,errW_some] <;> rfl)|(simp [*,errW_none,errW_some] <;> rfl),by repeat (first|(with_reducible first|exact HB.out|apply oA|apply pN|apply o1|refine bS ?_ Bc.out)|exact HB.out)⟩
-- NOT PRINTED: function 56 (impl_Pages_give)

/-! ### impl_PagesGive: function 24 -/
def impl_PagesGive.j0 : Nat → Int → Bool → List ByteArray → List Int → Option (List ByteArray × List Int × Bool)
|0, _, _, _, _ => none
|k + 1, x1, x15, x138000, x138001 => if x15 = true then (some (([] : List ByteArray), ([] : List Int), false)) else ((impl_Pages_clone.f x138000 x138001).bind fun bt141 => (if 0 ≤ x1 then (if x1 < (bt141.2.length : Int) then ((some (bt141.2.set (x1 : Int).toNat (wrap64 ((rd bt141.2 x1) - 1)) : List Int)).bind fun y149 => (if (rd y149 x1) = 0 then (if x1 < (bt141.1.length : Int) then (some ((bt141.1.set (x1 : Int).toNat (⟨#[]⟩ : ByteArray)), y149, true)) else (none)) else (some (bt141.1, y149, true)))) else (none)) else (none)))
def impl_PagesGive.f (k : Nat) (l0_0 : List ByteArray) (l0_1 : List Int) (a1 : Int) : Option (List ByteArray × List Int × Bool) := (impl_PagesOk.f k l0_0 l0_1).bind fun t139 => (if t139 = true then ((impl_Pages_has.f l0_0 l0_1 a1).bind fun t140 => (impl_PagesGive.j0 k a1 (!t140) l0_0 l0_1)) else (impl_PagesGive.j0 k a1 true l0_0 l0_1))
theorem impl_PagesGive.mono_l : ∀ k, (∀ y0 y1 y2 y3, LeO (impl_PagesGive.j0 k y0 y1 y2 y3) (impl_PagesGive.j0 (k + 1) y0 y1 y2 y3))
|0 => fun _ _ _ _ r h => by simp [impl_PagesGive.j0] at h
|k + 1 => by
  have ih0 := impl_PagesGive.mono_l k
  ·intro y0 y1 y2 y3
   unfold impl_PagesGive.j0
   repeat' first
  |(with_reducible exact ih0 _ _ _ _)
  |(with_reducible exact impl_PagesOk.mono _ _ _)
  |(with_reducible exact LeO.refl _)
  |(with_reducible exact LeO.none _)
  |(with_reducible refine LeO.ite ?_ ?_)
  |(with_reducible refine LeO.bind ?_ (fun _ => ?_))
  |exact ih0 _ _ _ _
  |exact impl_PagesOk.mono _ _ _
  |exact LeO.none _
  |refine LeO.ite ?_ ?_
  |refine LeO.bind ?_ (fun _ => ?_)
theorem impl_PagesGive.mono : ∀ a0 a1 a2 k, LeO (impl_PagesGive.f k a0 a1 a2) (impl_PagesGive.f (k + 1) a0 a1 a2) := by
 intro a0 a1 a2 k
 have ih0 := impl_PagesGive.mono_l k
 unfold impl_PagesGive.f
 repeat' first
  |(with_reducible exact ih0 _ _ _ _)
  |(with_reducible exact impl_PagesOk.mono _ _ _)
  |(with_reducible exact LeO.refl _)
  |(with_reducible exact LeO.none _)
  |(with_reducible refine LeO.ite ?_ ?_)
  |(with_reducible refine LeO.bind ?_ (fun _ => ?_))
  |exact ih0 _ _ _ _
  |exact impl_PagesOk.mono _ _ _
  |exact LeO.none _
  |refine LeO.ite ?_ ?_
  |refine LeO.bind ?_ (fun _ => ?_)
set_option maxHeartbeats 2000000 in
set_option maxRecDepth 100000 in
theorem impl_PagesGive.calls (k:Nat) (A0_0:Option Addr) (c0_0:Nat) (l0_0:List ByteArray) (A0_1:Option Addr) (c0_1:Nat) (l0_1:List Int) (a1:Int) (r1:List ByteArray) (r2:List Int) (r3:Bool) (w:World) (hr0_0:Kd.C Kd.string w A0_0 l0_0.length l0_0) (hc0_0:l0_0.length≤c0_0) (hr0_1:Kd.C (Kd.int .i64) w A0_1 l0_1.length l0_1) (hc0_1:l0_1.length≤c0_1) (h:impl_PagesGive.f k l0_0 l0_1 a1=some (r1,r2,r3)) :
  Calls Try.prog 24 #[.agg #[.slice A0_0 l0_0.length c0_0,.slice A0_1 l0_1.length c0_1],.int .i64 a1] w fun e w'=>∃ v0_ v1_:Value,e=.returned (.tuple #[.agg #[v0_,v1_],.bool r3])∧Kd.R Kd.string 9 w' w.heap.size (fun _=>True) v0_ r1∧Kd.R (Kd.int .i64) 3 w' w.heap.size (fun _=>True) v1_ r2∧Below w.heap.size w w':=by
 have hu26:=Try.underlying26
 have HR0_0:=Am hr0_0
 have HC0_0:=Am hc0_0
 clear hr0_0 hc0_0
 have HR0_1:=Am hr0_1
 have HC0_1:=Am hc0_1
 clear hr0_1 hc0_1
 have HB:=Am (Below.refl w.heap.size w)
 have H:((impl_PagesOk.f k l0_0 l0_1).bind fun t139=>(if t139=true then ((impl_Pages_has.f l0_0 l0_1 a1).bind fun t140=>(impl_PagesGive.j0 k a1 (!t140) l0_0 l0_1)) else (impl_PagesGive.j0 k a1 true l0_0 l0_1)))=some (r1,r2,r3):=h
 clear h
 have HC3:=Am H
 clear H
 have hres_:∀ ts_ w_,Sem.run Try.prog (results Try.f56 ts_) w_=.ok (.tuple #[]) w_:=by intro ts_ w_;simp [results,Try.results56,go_sem]
 go_enter Try.func24,Try.ntmps24
 go_upto_region 1 with (first|((with_reducible refine gate_dst (N:=2) rfl ?_);refine box_event ?hg (N:=2) ?hd (cs:=#[.slice A0_0 l0_0.length c0_0,.slice A0_1 l0_1.length c0_1]) (t:=26) ?hr ?_;(case hd=>rfl);(case hg=>rfl);(case hr=>first|(go_simp;done)|(go_simp;rfl));intro Bg hg w4 hbox hb;have n0_:=Am (bP (by repeat (first|(with_reducible first|exact HB.out|apply oA|apply pN|apply o1)|exact HB.out)) hb);have n1_:=Am (hbox);have n2_:=Am ((by rw [hg];exact (bZ (by repeat (first|(with_reducible first|exact HB.out|apply oA|apply pN|apply o1)|exact HB.out))):w.heap.size≤Bg));have n3_:=Am ((by rw [hg];exact (bZ (by repeat (first|(with_reducible first|exact HB.out|apply oA|apply pN|apply o1)|exact HB.out))):w.heap.size≤Bg));clear HB;revert n0_ n1_ n2_ n3_;intro HB Ba Ds Bi;clear hb hbox hg)|((with_reducible refine gate_dst (N:=4) rfl ?_);refine box_event ?hg (N:=4) ?hd (cs:=#[.slice none 0 0,.slice none 0 0]) (t:=26) ?hr ?_;(case hd=>rfl);(case hg=>rfl);(case hr=>first|(go_simp;done)|(go_simp;rfl));intro Bf hg w5 hbox hb;have n0_:=Am (bX Ba.out hb);have n1_:=Am (bP (by repeat (first|(with_reducible first|exact HB.out|apply oA|apply pN|apply o1|refine bS ?_ Bi.out)|exact HB.out)) hb);have n2_:=Am (hbox);have n3_:=Am ((by rw [hg];exact (bZ (by repeat (first|(with_reducible first|exact HB.out|apply oA|apply pN|apply o1|refine bS ?_ Bi.out)|exact HB.out))):w.heap.size≤Bf));have n4_:=Am ((by rw [hg];exact (bZ (by repeat (first|(with_reducible first|exact HB.out|apply oA|apply pN|apply o1|refine bS ?_ Bi.out)|exact HB.out))):w.heap.size≤Bf));have n5_:=Am ((nL Ba.out hg));have n6_:=Am ((nG Ba.out hg));clear Ba HB;revert n0_ n1_ n2_ n3_ n4_ n5_ n6_;intro Ba HB Bb Dt Bj Bk Bl;clear hb hbox hg)|go_in)
 (try (refine bodyPost_end (v:=.tuple #[]) (hres_ _ _) rfl ?_;go_wp2))
 (try simp only [Act.put,lA,lZ,lS])
 go_cut [15] (fun v15 wc=>∃ (kq:Nat) (x15_2:Bool),v15=.bool x15_2∧Aside0 (impl_PagesGive.j0 kq a1 x15_2 l0_0 l0_1=some (r1,r2,r3))∧Aside0 (kq≤k)∧Aside0 (wc.heap[Bg]?=some (.cells #[(.slice A0_0 l0_0.length c0_0),(.slice A0_1 l0_1.length c0_1)] 26 (0,0)))∧Aside0 (wc.heap[Bf]?=some (.cells #[(.slice none 0 0),(.slice none 0 0)] 26 (0,0)))∧Aside0 (Below w.heap.size w wc))
 case first =>
  have H:=HC3.out
  clear HC3
  replace H:=oC H
  obtain ⟨t139,A60,H⟩:=H
  replace H:(if t139=true then ((impl_Pages_has.f l0_0 l0_1 a1).bind fun t140=>(impl_PagesGive.j0 k a1 (!t140) l0_0 l0_1)) else (impl_PagesGive.j0 k a1 true l0_0 l0_1))=some (r1,r2,r3):=H
  have A6:=Am A60
  clear A60
  by_cases c7:t139=true
  rotate_left
  ·replace c7:=Bool.eq_false_iff.mpr c7
   subst c7
   have H1:(impl_PagesGive.j0 k a1 true l0_0 l0_1)=some (r1,r2,r3):=by rw [if_neg (show ¬ (false=true) by decide)] at H;exact H
   clear H
   have H:=H1
   clear H1
   have H':=Am H
   clear H
   have Du:=Bk.out
   have Dv:=Bl.out
   have BA:=cz0 Ba.out
   have BB:=cz1 Ba.out
   have BC:=bF Ba.out 0
   have BD:=bF Ba.out 1
   go_wp2_with (first|((with_reducible refine gate_callee (f:=29) rfl ?_);refine goesL_ (some 8) rfl rfl Try.func29 (by kernel_rfl) rfl #[.agg #[.slice A0_0 l0_0.length c0_0,.slice A0_1 l0_1.length c0_1]] rfl (by (try simp only [lM,lC,lN]);first|done|rfl|(simp only [lD,lT];rfl)) ?_;(with_reducible refine (impl_PagesOk.calls k _ _ l0_0 _ _ l0_1 false _ ?side1 ?side2 ?side3 ?side4 A6.out).mono ?_);(case side1=>repeat (first|exact (cB HR0_0.out HB.out)|(with_reducible refine cA ?_ _)|(with_reducible refine cN ?_ _)|(with_reducible refine cD ?_)));(case side2=>exact HC0_0.out);(case side3=>repeat (first|exact (cB HR0_1.out HB.out)|(with_reducible refine cA ?_ _)|(with_reducible refine cN ?_ _)|(with_reducible refine cD ?_)));(case side4=>exact HC0_1.out);rintro e w16 ⟨rfl,hb⟩;refine ⟨_,rfl,?_⟩;have n0_:=Am (bX Ba.out hb);have n1_:=Am (bX Bb.out hb);have n2_:=Am (bP (by repeat (first|(with_reducible first|exact HB.out|apply oA|apply pN|apply o1|refine bS ?_ Bi.out|refine bS ?_ Bj.out)|exact HB.out)) hb);clear Ba Bb HB;revert n0_ n1_ n2_;intro Ba Bb HB;(try clear hb);(try clear hb2);(try clear hk);(try clear hi))|go_in)
   (try (refine bodyPost_end (v:=.tuple #[]) (hres_ _ _) rfl ?_;go_wp2))
   go_meet
   case rel=>exact ⟨_,(true),(by first|rfl|(simp;done)|(simp [*];done)),H',⟨by first|omega|exact Nat.le_refl _⟩,⟨by (with_reducible repeat (first|refine bN ?_ _|refine bD ?_|refine bA ?_ _));exact Ba.out⟩,⟨by (with_reducible repeat (first|refine bN ?_ _|refine bD ?_|refine bA ?_ _));exact Bb.out⟩,⟨by repeat (first|(with_reducible first|exact HB.out|apply oA|apply pN|apply o1|refine bS ?_ Bi.out|refine bS ?_ Bj.out)|exact HB.out)⟩⟩
  subst c7
  have H1:((impl_Pages_has.f l0_0 l0_1 a1).bind fun t140=>(impl_PagesGive.j0 k a1 (!t140) l0_0 l0_1))=some (r1,r2,r3):=by rw [if_pos rfl] at H;exact H
  clear H
  have H:=H1
  clear H1
  replace H:=oC H
  obtain ⟨t140,A80,H⟩:=H
  replace H:(impl_PagesGive.j0 k a1 (!t140) l0_0 l0_1)=some (r1,r2,r3):=H
  have A8:=Am A80
  clear A80
  have H':=Am H
  clear H
  have DK:=Bk.out
  have DL:=Bl.out
  have Bs:=cz0 Ba.out
  have Bt:=cz1 Ba.out
  have Bu:=bF Ba.out 0
  have Bv:=bF Ba.out 1
  go_wp2_with (first|((with_reducible refine gate_callee (f:=29) rfl ?_);refine goesL_ (some 8) rfl rfl Try.func29 (by kernel_rfl) rfl #[.agg #[.slice A0_0 l0_0.length c0_0,.slice A0_1 l0_1.length c0_1]] rfl (by (try simp only [lM,lC,lN]);first|done|rfl|(simp only [lD,lT];rfl)) ?_;(with_reducible refine (impl_PagesOk.calls k _ _ l0_0 _ _ l0_1 true _ ?side1 ?side2 ?side3 ?side4 A6.out).mono ?_);(case side1=>repeat (first|exact (cB HR0_0.out HB.out)|(with_reducible refine cA ?_ _)|(with_reducible refine cN ?_ _)|(with_reducible refine cD ?_)));(case side2=>exact HC0_0.out);(case side3=>repeat (first|exact (cB HR0_1.out HB.out)|(with_reducible refine cA ?_ _)|(with_reducible refine cN ?_ _)|(with_reducible refine cD ?_)));(case side4=>exact HC0_1.out);rintro e w11 ⟨rfl,hb⟩;refine ⟨_,rfl,?_⟩;have n0_:=Am (bX Ba.out hb);have n1_:=Am (bX Bb.out hb);have n2_:=Am (bP (by repeat (first|(with_reducible first|exact HB.out|apply oA|apply pN|apply o1|refine bS ?_ Bi.out|refine bS ?_ Bj.out)|exact HB.out)) hb);clear Ba Bb HB;revert n0_ n1_ n2_;intro Ba Bb HB;(try clear hb);(try clear hb2);(try clear hk);(try clear hi);have Bw:=cz0 Ba.out;have Bx:=cz1 Ba.out;have By:=bF Ba.out 0;have Bz:=bF Ba.out 1)|(go_at_call 55;(with_reducible refine (impl_Pages_has.calls _ _ l0_0 _ _ l0_1 a1 t140 _ ?side1 ?side2 ?side3 ?side4 A8.out).mono ?_);(case side1=>repeat (first|exact (cB HR0_0.out HB.out)|(with_reducible refine cA ?_ _)|(with_reducible refine cN ?_ _)|(with_reducible refine cD ?_)));(case side2=>exact HC0_0.out);(case side3=>repeat (first|exact (cB HR0_1.out HB.out)|(with_reducible refine cA ?_ _)|(with_reducible refine cN ?_ _)|(with_reducible refine cD ?_)));(case side4=>exact HC0_1.out);rintro e w13 ⟨rfl,hb⟩;have n0_:=Am (bX Ba.out hb);have n1_:=Am (bX Bb.out hb);have n2_:=Am (bP (by repeat (first|(with_reducible first|exact HB.out|apply oA|apply pN|apply o1|refine bS ?_ Bi.out|refine bS ?_ Bj.out)|exact HB.out)) hb);clear Ba Bb HB;revert n0_ n1_ n2_;intro Ba Bb HB;(try clear hb);(try clear hb2);(try clear hk);(try clear hi))|go_in)
  (try (refine bodyPost_end (v:=.tuple #[]) (hres_ _ _) rfl ?_;go_wp2))
  go_meet
  case rel=>exact ⟨_,(!t140),(by first|rfl|(simp;done)|(simp [*];done)),H',⟨by first|omega|exact Nat.le_refl _⟩,⟨by (with_reducible repeat (first|refine bN ?_ _|refine bD ?_|refine bA ?_ _));exact Ba.out⟩,⟨by (with_reducible repeat (first|refine bN ?_ _|refine bD ?_|refine bA ?_ _));exact Bb.out⟩,⟨by repeat (first|(with_reducible first|exact HB.out|apply oA|apply pN|apply o1|refine bS ?_ Bi.out|refine bS ?_ Bj.out)|exact HB.out)⟩⟩
 case rest =>
  clear HC3
  try clear c1
  try clear c2
  try clear p2
  try clear c7
  try clear c9
  try clear c14
  try clear Bs
  try clear Bt
  try clear Bw
  try clear Bx
  try clear BA
  try clear BB
  try clear Bu
  try clear Bv
  try clear By
  try clear Bz
  try clear BC
  try clear BD
  obtain ⟨kq,x15_2,rfl,HA,DM,Ba,Bb,HB⟩:=hcut
  cases kq with
 |zero=>exact absurd HA.out (by simp [impl_PagesGive.j0])
 |succ kj2 =>
   have H:=HA.out
   clear HA
   simp only [impl_PagesGive.j0] at H
   by_cases c17:x15_2=true
   ·subst c17
    have H1:(some (([]:List ByteArray),([]:List Int),false))=some (r1,r2,r3):=by rw [if_pos rfl] at H;exact H
    clear H
    have H:=H1
    clear H1
    simp only [Option.some.injEq,Prod.mk.injEq] at H
    obtain ⟨rfl,rfl,rfl⟩:=H
    have Dw:=Bl.out
    have Dx:=Bk.out
    have BG:=cz0 Bb.out
    have BH:=cz1 Bb.out
    have BI:=bF Bb.out 0
    have BJ:=bF Bb.out 1
    go_wp2
    refine bodyPost_ret (results_ct rfl _ _ Bf 26 #[.slice none 0 0,.slice none 0 0] (0,0) _ rfl (by (with_reducible repeat (first|refine bN ?_ _|refine bD ?_|refine bA ?_ _));refine blk_put (cs:=#[.slice none 0 0,.slice none 0 0]) ?_ 1 _ rfl;(with_reducible repeat (first|refine bN ?_ _|refine bD ?_|refine bA ?_ _));refine blk_put (cs:=#[.slice none 0 0,.slice none 0 0]) ?_ 0 _ rfl;(with_reducible repeat (first|refine bN ?_ _|refine bD ?_|refine bA ?_ _));exact Bb.out) Try.underlying26 rfl (by kernel_rfl)) rfl ?_
    exact ⟨_,_,by first|rfl|(simp [errW_none,errW_some] <;> rfl)|(simp [*,errW_none,errW_some] <;> rfl),by first|exact Kd.R_nil _ _ _ _ _|exact Kd.N_nil _ _ _ _ _|exact Kd.V_nil _ _ _ _ _|exact Kd.Q_nil _ _ _ _ _|exact Kd.S_nil _ _ _ _ _,by first|exact Kd.R_nil _ _ _ _ _|exact Kd.N_nil _ _ _ _ _|exact Kd.V_nil _ _ _ _ _|exact Kd.Q_nil _ _ _ _ _|exact Kd.S_nil _ _ _ _ _,by repeat (first|(with_reducible first|exact HB.out|apply oA|apply pN|apply o1|refine bS ?_ Bi.out|refine bS ?_ Bj.out)|exact HB.out)⟩
   replace c17:=Bool.eq_false_iff.mpr c17
   subst c17
   have H1:((impl_Pages_clone.f l0_0 l0_1).bind fun bt141=>(if 0≤a1 then (if a1<(bt141.2.length:Int) then ((some (bt141.2.set (a1:Int).toNat (wrap64 ((rd bt141.2 a1) - 1)):List Int)).bind fun y149=>(if (rd y149 a1)=0 then (if a1<(bt141.1.length:Int) then (some ((bt141.1.set (a1:Int).toNat (⟨#[]⟩:ByteArray)),y149,true)) else (none)) else (some (bt141.1,y149,true)))) else (none)) else (none)))=some (r1,r2,r3):=by rw [if_neg (show ¬ (false=true) by decide)] at H;exact H
   clear H
   have H:=H1
   clear H1
   replace H:=oC H
   obtain ⟨⟨t141,t144⟩,A200,H⟩:=H
   replace H:(if 0≤a1 then (if a1<(t144.length:Int) then ((some (t144.set (a1:Int).toNat (wrap64 ((rd t144 a1) - 1)):List Int)).bind fun y149=>(if (rd y149 a1)=0 then (if a1<(t141.length:Int) then (some ((t141.set (a1:Int).toNat (⟨#[]⟩:ByteArray)),y149,true)) else (none)) else (some (t141,y149,true)))) else (none)) else (none))=some (r1,r2,r3):=H
   have A20:=Am A200
   clear A200
   by_cases c21:0≤a1
   rotate_left
   ·rw [if_neg c21] at H
    exact absurd H (by simp)


   rw [if_pos c21] at H
   have c21b0:decide (0≤a1)=true:=decide_eq_true c21
   clear c21
   by_cases c22:a1<(t144.length:Int)
   rotate_left
   ·rw [if_neg c22] at H
    exact absurd H (by simp)
   rw [if_pos c22] at H
   have c22b0:decide (a1<(t144.length:Int))=true:=decide_eq_true c22
   clear c22
   obtain ⟨y149,hy149⟩:∃ y_:List Int,y_=(t144.set (a1:Int).toNat (wrap64 ((rd t144 a1) - 1))):=⟨_,rfl⟩
   replace H:(if (rd y149 a1)=0 then (if a1<(t141.length:Int) then (some ((t141.set (a1:Int).toNat (⟨#[]⟩:ByteArray)),y149,true)) else (none)) else (some (t141,y149,true)))=some (r1,r2,r3):=by first|(rw [hy149];with_reducible exact H)|(have H2_:=(Option.bind_some _ _).symm.trans H;rw [hy149];with_reducible exact H2_)|(have H2_:=(Option.bind_some _ _).symm.trans H;with_reducible exact H2_)|with_reducible exact H|(rw [hy149];exact H)|exact H
   have Ny149:=Am hy149
   clear hy149
   by_cases c24:(rd y149 a1)=0
   rotate_left
   ·rw [if_neg c24] at H
    have c24b0:((rd y149 a1) == 0)=false:=beq_eq_false_iff_ne.mpr c24
    have c24b1:((rd y149 a1) != 0)=true:=bne_iff_ne.mpr c24
    simp only [Option.some.injEq,Prod.mk.injEq] at H
    obtain ⟨rfl,rfl,rfl⟩:=H
    have DE:=Bk.out
    have DF:=Bl.out
    have B8:=cz0 Ba.out
    have B9:=cz1 Ba.out
    have Da:=bF Ba.out 0
    have Db:=bF Ba.out 1
    go_wp2_with (first|((with_reducible refine gate_callee (f:=45) rfl ?_);refine goesL_ (some 18) rfl rfl Try.func45 (by kernel_rfl) rfl #[.agg #[.slice A0_0 l0_0.length c0_0,.slice A0_1 l0_1.length c0_1]] rfl (by (try simp only [lM,lC,lN]);first|done|rfl|(simp only [lD,lT];rfl)) ?_;(with_reducible refine (impl_Pages_clone.calls _ _ l0_0 _ _ l0_1 t141 t144 _ ?side1 ?side2 ?side3 ?side4 A20.out).mono ?_);(case side1=>repeat (first|exact (cB HR0_0.out HB.out)|(with_reducible refine cA ?_ _)|(with_reducible refine cN ?_ _)|(with_reducible refine cD ?_)));(case side2=>exact HC0_0.out);(case side3=>repeat (first|exact (cB HR0_1.out HB.out)|(with_reducible refine cA ?_ _)|(with_reducible refine cN ?_ _)|(with_reducible refine cD ?_)));(case side4=>exact HC0_1.out);rintro e w47 ⟨v142,v145,rfl,ho0,ho1,hb⟩;refine ⟨_,rfl,?_⟩;have n0_:=Am (Kd.R_lower ho0 (bZ (by repeat (first|(with_reducible first|exact HB.out|apply oA|apply pN|apply o1|refine bS ?_ Bi.out|refine bS ?_ Bj.out)|exact HB.out))));have n1_:=Am (Kd.R_lower ho1 (bZ (by repeat (first|(with_reducible first|exact HB.out|apply oA|apply pN|apply o1|refine bS ?_ Bi.out|refine bS ?_ Bj.out)|exact HB.out))));have n2_:=Am (bX Ba.out hb);have n3_:=Am (bX Bb.out hb);have n4_:=Am (bP (by repeat (first|(with_reducible first|exact HB.out|apply oA|apply pN|apply o1|refine bS ?_ Bi.out|refine bS ?_ Bj.out)|exact HB.out)) hb);clear Ba Bb HB;revert n0_ n1_ n2_ n3_ n4_;intro Bh Bd Ba Bb HB;(try clear hb);(try clear hb2);(try clear hk);(try clear hi);(try clear ho0);(try clear ho1))|((with_reducible refine gate_dst (N:=6) rfl ?_);refine box_event ?hg (N:=6) ?hd (cs:=#[.slice none 0 0,.slice none 0 0]) (t:=26) ?hr ?_;(case hd=>rfl);(case hg=>rfl);(case hr=>first|(go_simp;done)|(go_simp;rfl));intro Be hg w48 hbox hb;have n0_:=Am (rB (rL Bh.out) hb);have n1_:=Am (rB (rL Bd.out) hb);have n2_:=Am (bX Ba.out hb);have n3_:=Am (bX Bb.out hb);have n4_:=Am (bP (by repeat (first|(with_reducible first|exact HB.out|apply oA|apply pN|apply o1|refine bS ?_ Bi.out|refine bS ?_ Bj.out)|exact HB.out)) hb);have n5_:=Am (hbox);have n6_:=Am ((by rw [hg];exact (bZ (by repeat (first|(with_reducible first|exact HB.out|apply oA|apply pN|apply o1|refine bS ?_ Bi.out|refine bS ?_ Bj.out)|exact HB.out))):w.heap.size≤Be));have n7_:=Am ((by rw [hg];exact (bZ (by repeat (first|(with_reducible first|exact HB.out|apply oA|apply pN|apply o1|refine bS ?_ Bi.out|refine bS ?_ Bj.out)|exact HB.out))):w.heap.size≤Be));have n8_:=Am ((nL Ba.out hg));have n9_:=Am ((nG Ba.out hg));have n10_:=Am ((nL Bb.out hg));have n11_:=Am ((nG Bb.out hg));clear Bh Bd Ba Bb HB;revert n0_ n1_ n2_ n3_ n4_ n5_ n6_ n7_ n8_ n9_ n10_ n11_;intro Bh Bd Ba Bb HB Bc BF Bq Bm Bo Bn Bp;clear hb hbox hg;obtain ⟨Ao49,co49,eo49⟩:=Kd.R_slice Bh.out;subst eo49;have DG:=Bo.out;have DH:=Bm.out;have DI:=Bp.out;have DJ:=Bn.out;have Dc:=cz0 Bc.out;have Dd:=cz1 Bc.out;have De:=bF Bc.out 0;have Df:=bF Bc.out 1;obtain ⟨Ao53,co53,eo53⟩:=Kd.R_slice Bd.out;subst eo53)|((with_reducible refine gate_store (t:=26) (p:=6) rfl ?_);refine store_event (t:=26) (p:=6) (v:=?vo_w54) (w1:=((w48.setCell ⟨Be,0,none⟩ (.slice Ao49 t141.length co49)).setCell ⟨Be,1,none⟩ (.slice Ao53 t144.length co53))) ?hg ?ho ?hn ?hr ?_;(case ho=>rfl);(case hg=>rfl);(case hn=>rfl);(case hr=>first|(go_simp;done)|(go_simp;rfl));intro w54 hw;have n0_:Aside0 (Kd.R Kd.string 9 w54 w.heap.size (fun _=>True) (.slice Ao49 t141.length co49) t141):=⟨(by rw [hw];exact (by (with_reducible repeat (first|apply rA|apply rN|apply rD));exact rM (rF (p:=⟨Be,1,none⟩) (rF (p:=⟨Be,0,none⟩) (rT Bh.out Bc.out (by decide)) (fun _ hk=>hk.2) (.slice Ao49 t141.length co49)) (fun _ hk=>hk.2) (.slice Ao53 t144.length co53)) (fun _ hk=>trivial)))⟩;have n1_:Aside0 (Kd.R (Kd.int .i64) 3 w54 w.heap.size (fun _=>True) (.slice Ao53 t144.length co53) t144):=⟨(by rw [hw];exact (by (with_reducible repeat (first|apply rA|apply rN|apply rD));exact rM (rF (p:=⟨Be,1,none⟩) (rF (p:=⟨Be,0,none⟩) (rT Bd.out Bc.out (by decide)) (fun _ hk=>hk.2) (.slice Ao49 t141.length co49)) (fun _ hk=>hk.2) (.slice Ao53 t144.length co53)) (fun _ hk=>trivial)))⟩;have n2_:Aside0 (w54.heap[Bg]?=some (.cells #[.slice A0_0 l0_0.length c0_0,.slice A0_1 l0_1.length c0_1] 26 (0,0))):=⟨(by rw [hw];exact (by (with_reducible repeat (first|refine bN ?_ _|refine bD ?_|refine bA ?_ _|refine blk_far ?_ Bm.out _));exact Ba.out))⟩;have n3_:Aside0 (w54.heap[Bf]?=some (.cells #[.slice none 0 0,.slice none 0 0] 26 (0,0))):=⟨(by rw [hw];exact (by (with_reducible repeat (first|refine bN ?_ _|refine bD ?_|refine bA ?_ _|refine blk_far ?_ Bn.out _));exact Bb.out))⟩;have n4_:Aside0 (w54.heap[Be]?=some (.cells #[.slice Ao49 t141.length co49,.slice Ao53 t144.length co53] 26 (0,0))):=⟨(by rw [hw];exact (by (with_reducible repeat (first|refine bN ?_ _|refine bD ?_|refine bA ?_ _));refine blk_put (cs:=#[.slice Ao49 t141.length co49,.slice none 0 0]) ?_ 1 _ rfl;(with_reducible repeat (first|refine bN ?_ _|refine bD ?_|refine bA ?_ _));refine blk_put (cs:=#[.slice none 0 0,.slice none 0 0]) ?_ 0 _ rfl;(with_reducible repeat (first|refine bN ?_ _|refine bD ?_|refine bA ?_ _));exact Bc.out))⟩;have n5_:Aside0 (Below w.heap.size w w54):=⟨(by rw [hw];exact (by repeat (first|(with_reducible first|exact HB.out|apply oA|apply pN|apply o1|refine bS ?_ Bi.out|refine bS ?_ Bj.out|refine bS ?_ Bq.out)|exact HB.out)))⟩;clear hw Bh Bd Ba Bb Bc HB;revert n0_ n1_ n2_ n3_ n4_ n5_;intro Bh Bd Ba Bb Bc HB;have Dg:=cz0 Bc.out;have Dh:=cz1 Bc.out;have Di:=bF Bc.out 0;have Dj:=bF Bc.out 1;have p148:0≤(a1:Int):=of_decide_eq_true (by first|(with_reducible assumption)|assumption);have q148:a1<(t144.length:Int):=of_decide_eq_true (by first|(with_reducible assumption)|assumption);obtain ⟨ad148,e148,hx148_0⟩:=Kd.at_int (Kd.R_reads' Bd.out).2.2 a1 p148 q148;cases e148;replace p148:=eq_true p148;replace q148:=eq_true q148;have p23:0≤(a1:Int):=of_decide_eq_true (by first|(with_reducible assumption)|assumption);have q23:(a1:Int)<((t144.length:Int):Int):=of_decide_eq_true (by first|(with_reducible assumption)|assumption);obtain ⟨go23,co23,eo23,Br,gl23,cl23,HG23⟩:=Kd.R_form Bd.out (by omega);(first|cases eo23|(injection eo23 with ea_ en_ ec_;(first|subst ea_|(injection ea_ with ea_;subst ea_));subst ec_;clear en_));have GB23:=Am Br;have GG23:=Am HG23;clear Br gl23 HG23;(first|simp only [add_plain] at hx148_0|skip);obtain ⟨hx23_0,hf23_0⟩:=Kd.R_celln 0 Bd.out (a1:Int) p23 q23;replace p23:=eq_true p23;replace q23:=eq_true q23;obtain ⟨hy56_,hz56_⟩:=Kd.R_celln 0 Bd.out (a1:Int) (of_decide_eq_true (by first|(with_reducible assumption)|assumption)) (of_decide_eq_true (by first|(with_reducible assumption)|assumption));have HP56:=Kd.R_putg Bd.out (a1:Int) (wrap64 ((rd t144 a1) - 1)))|((with_reducible refine gate_store (t:=3) (p:=12) rfl ?_);refine store_event (t:=3) (p:=12) (v:=?vo_w57) (w1:=(w54.setCell ⟨go23,(a1:Int).toNat,none⟩ (.int .i64 (wrap64 ((rd t144 a1) - 1))))) ?hg ?ho ?hn ?hr ?_;(case ho=>rfl);(case hg=>rfl);(case hn=>rfl);(case hr=>first|(go_simp;done)|(go_simp;rfl));intro w57 hw;have hg:w54.grownBy w57 (some go23):=(by rw [hw];exact HP56.2);have hp_:Kd.R (Kd.int .i64) 3 w57 w.heap.size (fun _=>True) (.slice (some ⟨go23,0,none⟩) t144.length co53) y149:=(by rw [hw,Ny149.out];exact HP56.1);clear HP56;have n0_:=Am (blk_grown (g:=Bg) (o:=.cells #[.slice A0_0 l0_0.length c0_0,.slice A0_1 l0_1.length c0_1] 26 (0,0)) (bL Ba.out) hg (Kd.R_ne Bd.out Ba.out (by decide)));have n1_:=Am (blk_grown (g:=Bf) (o:=.cells #[.slice none 0 0,.slice none 0 0] 26 (0,0)) (bL Bb.out) hg (Kd.R_ne Bd.out Bb.out (by decide)));have n2_:=Am (Kd.R_over' (v:=(.slice (some ⟨go23,0,none⟩) t144.length co53)) (rL Bh.out) (Kd.R_typed Bd.out) (by decide) hg);have n3_:=Am (hp_);have n4_:=Am (blk_grown (g:=Be) (o:=.cells #[.slice Ao49 t141.length co49,.slice (some ⟨go23,0,none⟩) t144.length co53] 26 (0,0)) (bL Bc.out) hg (Kd.R_ne Bd.out Bc.out (by decide)));have n5_:=Am ((by rw [hw];exact bS (HB.out) GB23.out:Below w.heap.size w w57));clear Ba Bb Bh Bd Bc HB;revert n0_ n1_ n2_ n3_ n4_ n5_;intro Ba Bb Bh Bd Bc HB;clear hg hw hp_;have Dk:=cz0 Bc.out;have Dl:=cz1 Bc.out;have Dm:=bF Bc.out 0;have Dn:=bF Bc.out 1;have p150:0≤(a1:Int):=of_decide_eq_true (by first|(with_reducible assumption)|assumption);have q150:a1<(y149.length:Int):=(by have h_:(a1:Int)<((t144.length:Int):Int):=of_decide_eq_true (by first|(with_reducible assumption)|assumption);first|(have e_:=(Kd.R_reads' Bd.out).1;omega)|simpa only [Ny149.out,List.length_set] using h_);have ql150:((a1:Int)<((t144.length:Int):Int))=True:=eq_true (of_decide_eq_true (by first|(with_reducible assumption)|assumption));obtain ⟨ad150,e150,hx150_0⟩:=Kd.at_int (Kd.R_reads' Bd.out).2.2 a1 p150 q150;obtain rfl:(⟨go23,0,none⟩:Addr)=ad150:=(by injection e150);(first|simp only [add_plain] at hx150_0|simp only [add_at] at hx150_0|simp only [Addr.add,Nat.zero_add] at hx150_0|skip);replace p150:=eq_true p150;replace q150:=eq_true q150;have Do:=cz0 Bb.out;have Dp:=cz1 Bb.out;have Dq:=bF Bb.out 0;have Dr:=bF Bb.out 1)|go_in)
    (try (refine bodyPost_end (v:=.tuple #[]) (hres_ _ _) rfl ?_;go_wp2))
    refine bodyPost_ret (results_ct rfl _ _ Bf 26 #[.slice Ao49 t141.length co49,.slice (some ⟨go23,0,none⟩) t144.length co53] (0,0) _ rfl (by (with_reducible repeat (first|refine bN ?_ _|refine bD ?_|refine bA ?_ _));refine blk_put (cs:=#[.slice Ao49 t141.length co49,.slice none 0 0]) ?_ 1 _ rfl;(with_reducible repeat (first|refine bN ?_ _|refine bD ?_|refine bA ?_ _));refine blk_put (cs:=#[.slice none 0 0,.slice none 0 0]) ?_ 0 _ rfl;(with_reducible repeat (first|refine bN ?_ _|refine bD ?_|refine bA ?_ _));exact Bb.out) Try.underlying26 rfl (by kernel_rfl)) rfl ?_
    exact ⟨_,_,by first|rfl|(simp [errW_none,errW_some] <;> rfl)|(simp [*,errW_none,errW_some] <;> rfl),by (with_reducible repeat (first|apply rA|apply rN|apply rD));exact rM (rF (p:=⟨Bf,1,none⟩) (rF (p:=⟨Bf,0,none⟩) (rT Bh.out Bb.out (by decide)) (fun _ hk=>hk.2) (.slice Ao49 t141.length co49)) (fun _ hk=>hk.2) (.slice (some ⟨go23,0,none⟩) t144.length co53)) (fun _ hk=>trivial),by (with_reducible repeat (first|apply rA|apply rN|apply rD));exact rM (rF (p:=⟨Bf,1,none⟩) (rF (p:=⟨Bf,0,none⟩) (rT Bd.out Bb.out (by decide)) (fun _ hk=>hk.2) (.slice Ao49 t141.length co49)) (fun _ hk=>hk.2) (.slice (some ⟨go23,0,none⟩) t144.length co53)) (fun _ hk=>trivial),by repeat (first|(with_reducible first|exact HB.out|apply oA|apply pN|apply o1|refine bS ?_ Bi.out|refine bS ?_ Bj.out|refine bS ?_ Bq.out)|exact HB.out)⟩
   rw [if_pos c24] at H
   have c24b0:((rd y149 a1) == 0)=true:=beq_iff_eq.mpr c24
   have c24b1:((rd y149 a1) != 0)=false:=bne_eq_false_iff_eq.mpr c24
   clear c24
   by_cases c25:a1<(t141.length:Int)
   rotate_left
   ·rw [if_neg c25] at H
    exact absurd H (by simp)
   rw [if_pos c25] at H
   have c25b0:decide (a1<(t141.length:Int))=true:=decide_eq_true c25
   clear c25
   obtain ⟨y151,hy151⟩:∃ y_:List ByteArray,y_=(t141.set (a1:Int).toNat (⟨#[]⟩:ByteArray)):=⟨_,rfl⟩
   replace H:(some (y151,y149,true))=some (r1,r2,r3):=by first|(rw [hy151];with_reducible exact H)|(have H2_:=(Option.bind_some _ _).symm.trans H;rw [hy151];with_reducible exact H2_)|(have H2_:=(Option.bind_some _ _).symm.trans H;with_reducible exact H2_)|with_reducible exact H|(rw [hy151];exact H)|exact H
   have Ny151:=Am hy151
   clear hy151
   simp only [Option.some.injEq,Prod.mk.injEq] at H
   obtain ⟨rfl,rfl,rfl⟩:=H
   have Dy:=Bk.out
   have Dz:=Bl.out
   have BK:=cz0 Ba.out
   have BL:=cz1 Ba.out
   have BM:=bF Ba.out 0
   have BN:=bF Ba.out 1
   go_wp2_with (first|((with_reducible refine gate_callee (f:=45) rfl ?_);refine goesL_ (some 18) rfl rfl Try.func45 (by kernel_rfl) rfl #[.agg #[.slice A0_0 l0_0.length c0_0,.slice A0_1 l0_1.length c0_1]] rfl (by (try simp only [lM,lC,lN]);first|done|rfl|(simp only [lD,lT];rfl)) ?_;(with_reducible refine (impl_Pages_clone.calls _ _ l0_0 _ _ l0_1 t141 t144 _ ?side1 ?side2 ?side3 ?side4 A20.out).mono ?_);(case side1=>repeat (first|exact (cB HR0_0.out HB.out)|(with_reducible refine cA ?_ _)|(with_reducible refine cN ?_ _)|(with_reducible refine cD ?_)));(case side2=>exact HC0_0.out);(case side3=>repeat (first|exact (cB HR0_1.out HB.out)|(with_reducible refine cA ?_ _)|(with_reducible refine cN ?_ _)|(with_reducible refine cD ?_)));(case side4=>exact HC0_1.out);rintro e w29 ⟨v142,v145,rfl,ho0,ho1,hb⟩;refine ⟨_,rfl,?_⟩;have n0_:=Am (Kd.R_lower ho0 (bZ (by repeat (first|(with_reducible first|exact HB.out|apply oA|apply pN|apply o1|refine bS ?_ Bi.out|refine bS ?_ Bj.out)|exact HB.out))));have n1_:=Am (Kd.R_lower ho1 (bZ (by repeat (first|(with_reducible first|exact HB.out|apply oA|apply pN|apply o1|refine bS ?_ Bi.out|refine bS ?_ Bj.out)|exact HB.out))));have n2_:=Am (bX Ba.out hb);have n3_:=Am (bX Bb.out hb);have n4_:=Am (bP (by repeat (first|(with_reducible first|exact HB.out|apply oA|apply pN|apply o1|refine bS ?_ Bi.out|refine bS ?_ Bj.out)|exact HB.out)) hb);clear Ba Bb HB;revert n0_ n1_ n2_ n3_ n4_;intro Bh Bd Ba Bb HB;(try clear hb);(try clear hb2);(try clear hk);(try clear hi);(try clear ho0);(try clear ho1))|((with_reducible refine gate_dst (N:=6) rfl ?_);refine box_event ?hg (N:=6) ?hd (cs:=#[.slice none 0 0,.slice none 0 0]) (t:=26) ?hr ?_;(case hd=>rfl);(case hg=>rfl);(case hr=>first|(go_simp;done)|(go_simp;rfl));intro Be hg w30 hbox hb;have n0_:=Am (rB (rL Bh.out) hb);have n1_:=Am (rB (rL Bd.out) hb);have n2_:=Am (bX Ba.out hb);have n3_:=Am (bX Bb.out hb);have n4_:=Am (bP (by repeat (first|(with_reducible first|exact HB.out|apply oA|apply pN|apply o1|refine bS ?_ Bi.out|refine bS ?_ Bj.out)|exact HB.out)) hb);have n5_:=Am (hbox);have n6_:=Am ((by rw [hg];exact (bZ (by repeat (first|(with_reducible first|exact HB.out|apply oA|apply pN|apply o1|refine bS ?_ Bi.out|refine bS ?_ Bj.out)|exact HB.out))):w.heap.size≤Be));have n7_:=Am ((by rw [hg];exact (bZ (by repeat (first|(with_reducible first|exact HB.out|apply oA|apply pN|apply o1|refine bS ?_ Bi.out|refine bS ?_ Bj.out)|exact HB.out))):w.heap.size≤Be));have n8_:=Am ((nL Ba.out hg));have n9_:=Am ((nG Ba.out hg));have n10_:=Am ((nL Bb.out hg));have n11_:=Am ((nG Bb.out hg));clear Bh Bd Ba Bb HB;revert n0_ n1_ n2_ n3_ n4_ n5_ n6_ n7_ n8_ n9_ n10_ n11_;intro Bh Bd Ba Bb HB Bc BF Bq Bm Bo Bn Bp;clear hb hbox hg;obtain ⟨Ao31,co31,eo31⟩:=Kd.R_slice Bh.out;subst eo31;have DA:=Bo.out;have DB:=Bm.out;have DC:=Bp.out;have DD:=Bn.out;have BO:=cz0 Bc.out;have BP:=cz1 Bc.out;have BQ:=bF Bc.out 0;have BR:=bF Bc.out 1;obtain ⟨Ao35,co35,eo35⟩:=Kd.R_slice Bd.out;subst eo35)|((with_reducible refine gate_store (t:=26) (p:=6) rfl ?_);refine store_event (t:=26) (p:=6) (v:=?vo_w36) (w1:=((w30.setCell ⟨Be,0,none⟩ (.slice Ao31 t141.length co31)).setCell ⟨Be,1,none⟩ (.slice Ao35 t144.length co35))) ?hg ?ho ?hn ?hr ?_;(case ho=>rfl);(case hg=>rfl);(case hn=>rfl);(case hr=>first|(go_simp;done)|(go_simp;rfl));intro w36 hw;have n0_:Aside0 (Kd.R Kd.string 9 w36 w.heap.size (fun _=>True) (.slice Ao31 t141.length co31) t141):=⟨(by rw [hw];exact (by (with_reducible repeat (first|apply rA|apply rN|apply rD));exact rM (rF (p:=⟨Be,1,none⟩) (rF (p:=⟨Be,0,none⟩) (rT Bh.out Bc.out (by decide)) (fun _ hk=>hk.2) (.slice Ao31 t141.length co31)) (fun _ hk=>hk.2) (.slice Ao35 t144.length co35)) (fun _ hk=>trivial)))⟩;have n1_:Aside0 (Kd.R (Kd.int .i64) 3 w36 w.heap.size (fun _=>True) (.slice Ao35 t144.length co35) t144):=⟨(by rw [hw];exact (by (with_reducible repeat (first|apply rA|apply rN|apply rD));exact rM (rF (p:=⟨Be,1,none⟩) (rF (p:=⟨Be,0,none⟩) (rT Bd.out Bc.out (by decide)) (fun _ hk=>hk.2) (.slice Ao31 t141.length co31)) (fun _ hk=>hk.2) (.slice Ao35 t144.length co35)) (fun _ hk=>trivial)))⟩;have n2_:Aside0 (w36.heap[Bg]?=some (.cells #[.slice A0_0 l0_0.length c0_0,.slice A0_1 l0_1.length c0_1] 26 (0,0))):=⟨(by rw [hw];exact (by (with_reducible repeat (first|refine bN ?_ _|refine bD ?_|refine bA ?_ _|refine blk_far ?_ Bm.out _));exact Ba.out))⟩;have n3_:Aside0 (w36.heap[Bf]?=some (.cells #[.slice none 0 0,.slice none 0 0] 26 (0,0))):=⟨(by rw [hw];exact (by (with_reducible repeat (first|refine bN ?_ _|refine bD ?_|refine bA ?_ _|refine blk_far ?_ Bn.out _));exact Bb.out))⟩;have n4_:Aside0 (w36.heap[Be]?=some (.cells #[.slice Ao31 t141.length co31,.slice Ao35 t144.length co35] 26 (0,0))):=⟨(by rw [hw];exact (by (with_reducible repeat (first|refine bN ?_ _|refine bD ?_|refine bA ?_ _));refine blk_put (cs:=#[.slice Ao31 t141.length co31,.slice none 0 0]) ?_ 1 _ rfl;(with_reducible repeat (first|refine bN ?_ _|refine bD ?_|refine bA ?_ _));refine blk_put (cs:=#[.slice none 0 0,.slice none 0 0]) ?_ 0 _ rfl;(with_reducible repeat (first|refine bN ?_ _|refine bD ?_|refine bA ?_ _));exact Bc.out))⟩;have n5_:Aside0 (Below w.heap.size w w36):=⟨(by rw [hw];exact (by repeat (first|(with_reducible first|exact HB.out|apply oA|apply pN|apply o1|refine bS ?_ Bi.out|refine bS ?_ Bj.out|refine bS ?_ Bq.out)|exact HB.out)))⟩;clear hw Bh Bd Ba Bb Bc HB;revert n0_ n1_ n2_ n3_ n4_ n5_;intro Bh Bd Ba Bb Bc HB;have BS:=cz0 Bc.out;have BT:=cz1 Bc.out;have BU:=bF Bc.out 0;have BV:=bF Bc.out 1;have p148:0≤(a1:Int):=of_decide_eq_true (by first|(with_reducible assumption)|assumption);have q148:a1<(t144.length:Int):=of_decide_eq_true (by first|(with_reducible assumption)|assumption);obtain ⟨ad148,e148,hx148_0⟩:=Kd.at_int (Kd.R_reads' Bd.out).2.2 a1 p148 q148;cases e148;replace p148:=eq_true p148;replace q148:=eq_true q148;have p23:0≤(a1:Int):=of_decide_eq_true (by first|(with_reducible assumption)|assumption);have q23:(a1:Int)<((t144.length:Int):Int):=of_decide_eq_true (by first|(with_reducible assumption)|assumption);obtain ⟨go23,co23,eo23,Br,gl23,cl23,HG23⟩:=Kd.R_form Bd.out (by omega);(first|cases eo23|(injection eo23 with ea_ en_ ec_;(first|subst ea_|(injection ea_ with ea_;subst ea_));subst ec_;clear en_));have GB23:=Am Br;have GG23:=Am HG23;clear Br gl23 HG23;(first|simp only [add_plain] at hx148_0|skip);obtain ⟨hx23_0,hf23_0⟩:=Kd.R_celln 0 Bd.out (a1:Int) p23 q23;replace p23:=eq_true p23;replace q23:=eq_true q23;obtain ⟨hy38_,hz38_⟩:=Kd.R_celln 0 Bd.out (a1:Int) (of_decide_eq_true (by first|(with_reducible assumption)|assumption)) (of_decide_eq_true (by first|(with_reducible assumption)|assumption));have HP38:=Kd.R_putg Bd.out (a1:Int) (wrap64 ((rd t144 a1) - 1)))|((with_reducible refine gate_store (t:=3) (p:=12) rfl ?_);refine store_event (t:=3) (p:=12) (v:=?vo_w39) (w1:=(w36.setCell ⟨go23,(a1:Int).toNat,none⟩ (.int .i64 (wrap64 ((rd t144 a1) - 1))))) ?hg ?ho ?hn ?hr ?_;(case ho=>rfl);(case hg=>rfl);(case hn=>rfl);(case hr=>first|(go_simp;done)|(go_simp;rfl));intro w39 hw;have hg:w36.grownBy w39 (some go23):=(by rw [hw];exact HP38.2);have hp_:Kd.R (Kd.int .i64) 3 w39 w.heap.size (fun _=>True) (.slice (some ⟨go23,0,none⟩) t144.length co35) y149:=(by rw [hw,Ny149.out];exact HP38.1);clear HP38;have n0_:=Am (blk_grown (g:=Bg) (o:=.cells #[.slice A0_0 l0_0.length c0_0,.slice A0_1 l0_1.length c0_1] 26 (0,0)) (bL Ba.out) hg (Kd.R_ne Bd.out Ba.out (by decide)));have n1_:=Am (blk_grown (g:=Bf) (o:=.cells #[.slice none 0 0,.slice none 0 0] 26 (0,0)) (bL Bb.out) hg (Kd.R_ne Bd.out Bb.out (by decide)));have n2_:=Am (Kd.R_over' (v:=(.slice (some ⟨go23,0,none⟩) t144.length co35)) (rL Bh.out) (Kd.R_typed Bd.out) (by decide) hg);have n3_:=Am (hp_);have n4_:=Am (blk_grown (g:=Be) (o:=.cells #[.slice Ao31 t141.length co31,.slice (some ⟨go23,0,none⟩) t144.length co35] 26 (0,0)) (bL Bc.out) hg (Kd.R_ne Bd.out Bc.out (by decide)));have n5_:=Am ((by rw [hw];exact bS (HB.out) GB23.out:Below w.heap.size w w39));clear Ba Bb Bh Bd Bc HB;revert n0_ n1_ n2_ n3_ n4_ n5_;intro Ba Bb Bh Bd Bc HB;clear hg hw hp_;have BW:=cz0 Bc.out;have BX:=cz1 Bc.out;have BY:=bF Bc.out 0;have BZ:=bF Bc.out 1;have p150:0≤(a1:Int):=of_decide_eq_true (by first|(with_reducible assumption)|assumption);have q150:a1<(y149.length:Int):=(by have h_:(a1:Int)<((t144.length:Int):Int):=of_decide_eq_true (by first|(with_reducible assumption)|assumption);first|(have e_:=(Kd.R_reads' Bd.out).1;omega)|simpa only [Ny149.out,List.length_set] using h_);have ql150:((a1:Int)<((t144.length:Int):Int))=True:=eq_true (of_decide_eq_true (by first|(with_reducible assumption)|assumption));obtain ⟨ad150,e150,hx150_0⟩:=Kd.at_int (Kd.R_reads' Bd.out).2.2 a1 p150 q150;obtain rfl:(⟨go23,0,none⟩:Addr)=ad150:=(by injection e150);(first|simp only [add_plain] at hx150_0|simp only [add_at] at hx150_0|simp only [Addr.add,Nat.zero_add] at hx150_0|skip);replace p150:=eq_true p150;replace q150:=eq_true q150;have p26:0≤(a1:Int):=of_decide_eq_true (by first|(with_reducible assumption)|assumption);have q26:(a1:Int)<((t141.length:Int):Int):=of_decide_eq_true (by first|(with_reducible assumption)|assumption);obtain ⟨go26,co26,eo26,BE,gl26,cl26,HG26⟩:=Kd.R_form Bh.out (by omega);(first|cases eo26|(injection eo26 with ea_ en_ ec_;(first|subst ea_|(injection ea_ with ea_;subst ea_));subst ec_;clear en_));have GB26:=Am BE;have GG26:=Am HG26;clear BE gl26 HG26;obtain ⟨hx26_0,hf26_0⟩:=Kd.R_celln (⟨#[]⟩:ByteArray) Bh.out (a1:Int) p26 q26;replace p26:=eq_true p26;replace q26:=eq_true q26;obtain ⟨hy41_,hz41_⟩:=Kd.R_celln (⟨#[]⟩:ByteArray) Bh.out (a1:Int) (of_decide_eq_true (by first|(with_reducible assumption)|assumption)) (of_decide_eq_true (by first|(with_reducible assumption)|assumption));have HP41:=Kd.R_putg Bh.out (a1:Int) (⟨#[]⟩:ByteArray))|((with_reducible refine gate_store (t:=9) (p:=26) rfl ?_);refine store_event (t:=9) (p:=26) (v:=?vo_w42) (w1:=(w39.setCell ⟨go26,(a1:Int).toNat,none⟩ (.string (⟨#[]⟩:ByteArray)))) ?hg ?ho ?hn ?hr ?_;(case ho=>rfl);(case hg=>rfl);(case hn=>rfl);(case hr=>first|(go_simp;done)|(go_simp;rfl));intro w42 hw;have hg:w39.grownBy w42 (some go26):=(by rw [hw];exact HP41.2);have hp_:Kd.R Kd.string 9 w42 w.heap.size (fun _=>True) (.slice (some ⟨go26,0,none⟩) t141.length co31) y151:=(by rw [hw,Ny151.out];exact HP41.1);clear HP41;have n0_:=Am (blk_grown (g:=Bg) (o:=.cells #[.slice A0_0 l0_0.length c0_0,.slice A0_1 l0_1.length c0_1] 26 (0,0)) (bL Ba.out) hg (Kd.R_ne Bh.out Ba.out (by decide)));have n1_:=Am (blk_grown (g:=Bf) (o:=.cells #[.slice none 0 0,.slice none 0 0] 26 (0,0)) (bL Bb.out) hg (Kd.R_ne Bh.out Bb.out (by decide)));have n2_:=Am (hp_);have n3_:=Am (Kd.R_over' (v:=(.slice (some ⟨go26,0,none⟩) t141.length co31)) (rL Bd.out) (Kd.R_typed Bh.out) (by decide) hg);have n4_:=Am (blk_grown (g:=Be) (o:=.cells #[.slice (some ⟨go26,0,none⟩) t141.length co31,.slice (some ⟨go23,0,none⟩) t144.length co35] 26 (0,0)) (bL Bc.out) hg (Kd.R_ne Bh.out Bc.out (by decide)));have n5_:=Am ((by rw [hw];exact bS (HB.out) GB26.out:Below w.heap.size w w42));clear Ba Bb Bh Bd Bc HB;revert n0_ n1_ n2_ n3_ n4_ n5_;intro Ba Bb Bh Bd Bc HB;clear hg hw hp_;have B0:=cz0 Bc.out;have B1:=cz1 Bc.out;have B2:=bF Bc.out 0;have B3:=bF Bc.out 1;have B4:=cz0 Bb.out;have B5:=cz1 Bb.out;have B6:=bF Bb.out 0;have B7:=bF Bb.out 1)|go_in)
   (try (refine bodyPost_end (v:=.tuple #[]) (hres_ _ _) rfl ?_;go_wp2))
   refine bodyPost_ret (results_ct rfl _ _ Bf 26 #[.slice (some ⟨go26,0,none⟩) t141.length co31,.slice (some ⟨go23,0,none⟩) t144.length co35] (0,0) _ rfl (by (with_reducible repeat (first|refine bN ?_ _|refine bD ?_|refine bA ?_ _));refine blk_put (cs:=#[.slice (some ⟨go26,0,none⟩) t141.length co31,.slice none 0 0]) ?_ 1 _ rfl;(with_reducible repeat (first|refine bN ?_ _|refine bD ?_|refine bA ?_ _));refine blk_put (cs:=#[.slice none 0 0,.slice none 0 0]) ?_ 0 _ rfl;(with_reducible repeat (first|refine bN ?_ _|refine bD ?_|refine bA ?_ _));exact Bb.out) Try.underlying26 rfl (by kernel_rfl)) rfl ?_
   exact ⟨_,_,by first|rfl|(simp [errW_none,errW_some] <;> rfl)|(simp [*,errW_none,errW_some] <;> rfl),by (with_reducible repeat (first|apply rA|apply rN|apply rD));exact rM (rF (p:=⟨Bf,1,none⟩) (rF (p:=⟨Bf,0,none⟩) (rT Bh.out Bb.out (by decide)) (fun _ hk=>hk.2) (.slice (some ⟨go26,0,none⟩) t141.length co31)) (fun _ hk=>hk.2) (.slice (some ⟨go23,0,none⟩) t144.length co35)) (fun _ hk=>trivial),by (with_reducible repeat (first|apply rA|apply rN|apply rD));exact rM (rF (p:=⟨Bf,1,none⟩) (rF (p:=⟨Bf,0,none⟩) (rT Bd.out Bb.out (by decide)) (fun _ hk=>hk.2) (.slice (some ⟨go26,0,none⟩) t141.length co31)) (fun _ hk=>hk.2) (.slice (some ⟨go23,0,none⟩) t144.length co35)) (fun _ hk=>trivial),by repeat (first|(with_reducible first|exact HB.out|apply oA|apply pN|apply o1|refine bS ?_ Bi.out|refine bS ?_ Bj.out|refine bS ?_ Bq.out)|exact HB.out)⟩/-! ### laws_qdSum: function 26 -/
def laws_qdSum.l0 : Nat → List Int → Int → Int → Option (Int)
|0, _, _, _ => none
|k + 1, x0, x3, x4 => if x4 < (x0.length : Int) then (if 0 ≤ x4 then (laws_qdSum.l0 k x0 (wrap64 (x3 + (rd x0 x4))) (wrap64 (x4 + 1))) else (none)) else (some x3)
def laws_qdSum.f (k : Nat) (l0 : List Int) : Option (Int) := laws_qdSum.l0 k l0 0 0
theorem laws_qdSum.mono_l : ∀ k, (∀ y0 y1 y2, LeO (laws_qdSum.l0 k y0 y1 y2) (laws_qdSum.l0 (k + 1) y0 y1 y2))
|0 => fun _ _ _ r h => by simp [laws_qdSum.l0] at h
|k + 1 => by
  have ih0 := laws_qdSum.mono_l k
  ·intro y0 y1 y2
   unfold laws_qdSum.l0
   repeat' first
  |(with_reducible exact ih0 _ _ _)
  |(with_reducible exact LeO.refl _)
  |(with_reducible exact LeO.none _)
  |(with_reducible refine LeO.ite ?_ ?_)
  |(with_reducible refine LeO.bind ?_ (fun _ => ?_))
  |exact ih0 _ _ _
  |exact LeO.none _
  |refine LeO.ite ?_ ?_
  |refine LeO.bind ?_ (fun _ => ?_)
theorem laws_qdSum.mono : ∀ a0 k, LeO (laws_qdSum.f k a0) (laws_qdSum.f (k + 1) a0) := by
 intro a0 k
 have ih0 := laws_qdSum.mono_l k
 unfold laws_qdSum.f
 repeat' first
  |(with_reducible exact ih0 _ _ _)
  |(with_reducible exact LeO.refl _)
  |(with_reducible exact LeO.none _)
  |(with_reducible refine LeO.ite ?_ ?_)
  |(with_reducible refine LeO.bind ?_ (fun _ => ?_))
  |exact ih0 _ _ _
  |exact LeO.none _
  |refine LeO.ite ?_ ?_
  |refine LeO.bind ?_ (fun _ => ?_)
set_option maxHeartbeats 2000000 in
set_option maxRecDepth 100000 in
theorem laws_qdSum.calls (k:Nat) (A0:Option Addr) (c0:Nat) (l0:List Int) (r:Int) (w:World) (hr0:Kd.C (Kd.int .i64) w A0 l0.length l0) (hc0:l0.length≤c0) (h:laws_qdSum.f k l0=some r) :
  Calls Try.prog 26 #[.slice A0 l0.length c0] w fun e w'=>e=.returned (.int .i64 r)∧Drawn0 w w':=by
 have HR0:=Am hr0
 have HC0:=Am hc0
 clear hr0 hc0
 have H:(laws_qdSum.l0 k l0 0 0)=some r:=h
 clear h
 have H':=Am H
 clear H
 go_enter Try.func26,Try.ntmps26
 go_wp2
 go_loopg [3,4] k (fun kq v3 v4 w'=>∃ (x3_1:Int) (x4_1:Int),v3=.int .i64 x3_1∧v4=.int .i64 x4_1∧Aside0 (laws_qdSum.l0 kq l0 x3_1 x4_1=some r)∧Aside0 (kq≤k)∧Drawn0 w w')
 case atStart=>exact ⟨(0),(0),(by first|rfl|(simp;done)|(simp [*];done)),(by first|rfl|(simp;done)|(simp [*];done)),H',⟨Nat.le_refl _⟩,by repeat (first|exact Drawn0.refl _|apply Drawn0.step)⟩
 case round =>
  clear H'
  obtain ⟨x3_1,x4_1,rfl,rfl,HA,HK1,⟨m1,rfl⟩⟩:=hrel
  cases gk with
 |zero=>exact absurd HA.out (by simp [laws_qdSum.l0])
 |succ k1 =>
   have H:=HA.out
   clear HA
   simp only [laws_qdSum.l0] at H
   by_cases c2:x4_1<(l0.length:Int)
   rotate_left
   ·rw [if_neg c2] at H
    have c2b0:decide (x4_1<(l0.length:Int))=false:=decide_eq_false c2
    clear c2
    obtain rfl:=Option.some.inj H
    go_wp2
    go_ret
    exact ⟨by first|rfl|(simp;done)|(simp [*];done),by repeat (first|exact Drawn0.refl _|apply Drawn0.step)⟩

   rw [if_pos c2] at H
   have c2b0:decide (x4_1<(l0.length:Int))=true:=decide_eq_true c2
   clear c2
   by_cases c3:0≤x4_1
   rotate_left
   ·rw [if_neg c3] at H
    exact absurd H (by simp)
   rw [if_pos c3] at H
   have c3b0:decide (0≤x4_1)=true:=decide_eq_true c3
   clear c3
   have H':=Am H
   clear H
   have p152:0≤(x4_1:Int):=of_decide_eq_true (by first|(with_reducible assumption)|assumption)
   have q152:x4_1<(l0.length:Int):=of_decide_eq_true (by first|(with_reducible assumption)|assumption)
   obtain ⟨ad152,e152,hx152_0⟩:=Kd.at_int HR0.out x4_1 p152 q152
   cases e152
   replace p152:=eq_true p152
   replace q152:=eq_true q152
   go_wp2
   go_roundg k1
   case measure=>have:=HK1.out;omega
   case rel=>exact ⟨(wrap64 (x3_1 + (rd l0 x4_1))),(wrap64 (x4_1 + 1)),(by first|rfl|(simp;done)|(simp [*];done)),(by first|rfl|(simp;done)|(simp [*];done)),H',⟨by have:=HK1.out;omega⟩,by repeat (first|exact Drawn0.refl _|apply Drawn0.step)⟩
end Go.Proofs.Ytpdfkbggaihfpaa.PFnPagesGive
