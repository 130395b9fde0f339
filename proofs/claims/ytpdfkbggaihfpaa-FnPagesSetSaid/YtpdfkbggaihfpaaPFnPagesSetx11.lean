/- Proved here, without a condition beyond those that each theorem states: what the Go functions named below do is what the plain functions of the same names say. Written by xprint.py, a program of this session. -/
import Derived.Test.YtpdfkbggaihfpaaPFnPagesSetx0
import Derived.Test.YtpdfkbggaihfpaaPFnPagesSetx7
import Derived.Test.YtpdfkbggaihfpaaPFnPagesSetx8
import Derived.Test.YtpdfkbggaihfpaaPFnPagesSetx9
import Derived.Test.YtpdfkbggaihfpaaPFnPagesSetx10
namespace Go.Proofs.Ytpdfkbggaihfpaa.PFnPagesSet
open Go.RowKit Go.Proofs.YtpdfkbggaihfpaaW.PrintWords Go.Proofs.YtpdfkbggaihfpaaW.PrintLast Go.Proofs.YtpdfkbggaihfpaaW.PrintMore
attribute [local go_sem] max2_int min2_int max_two min_two max_three min_three max_four min_four   -- for this text's walks alone
set_option linter.unusedVariables false
set_option linter.unusedSimpArgs false

attribute [local go_sem ↓] isSome_setCell_
/-! ### impl_PagesSet: function 17 -/
def impl_PagesSet.j0 : Nat → Int → Int → Int → ByteArray → Bool → List ByteArray → List Int → Option (List ByteArray × List Int × Bool)
|0, _, _, _, _, _, _, _ => none
|k + 1, x1, x2, x3, x10, x30, x248000, x248001 => if x30 = true then (some (([] : List ByteArray), ([] : List Int), false)) else ((impl_Pages_clone.f x248000 x248001).bind fun bt253 => ((impl_with.f x10 x2 x3).bind fun t260 => (if 0 ≤ x1 then (if x1 < (bt253.1.length : Int) then (some ((bt253.1.set (x1 : Int).toNat t260), bt253.2, true)) else (none)) else (none))))
def impl_PagesSet.f (k : Nat) (l0_0 : List ByteArray) (l0_1 : List Int) (a1 : Int) (a2 : Int) (a3 : Int) : Option (List ByteArray × List Int × Bool) := (impl_PagesGet.f k l0_0 l0_1 a1).bind fun bt249 => (if bt249.2 = true then ((impl_in.f a2 0 3).bind fun t251 => (if t251 = true then ((impl_in.f a3 0 255).bind fun t252 => (impl_PagesSet.j0 k a1 a2 a3 bt249.1 (!t252) l0_0 l0_1)) else (impl_PagesSet.j0 k a1 a2 a3 bt249.1 true l0_0 l0_1))) else (impl_PagesSet.j0 k a1 a2 a3 bt249.1 true l0_0 l0_1))
theorem impl_PagesSet.mono_l : ∀ k, (∀ y0 y1 y2 y3 y4 y5 y6, LeO (impl_PagesSet.j0 k y0 y1 y2 y3 y4 y5 y6) (impl_PagesSet.j0 (k + 1) y0 y1 y2 y3 y4 y5 y6))
|0 => fun _ _ _ _ _ _ _ r h => by simp [impl_PagesSet.j0] at h
|k + 1 => by
  have ih0 := impl_PagesSet.mono_l k
  ·intro y0 y1 y2 y3 y4 y5 y6
   unfold impl_PagesSet.j0
   repeat' first
  |(with_reducible exact ih0 _ _ _ _ _ _ _)
  |(with_reducible exact impl_PagesGet.mono _ _ _ _)
  |(with_reducible exact LeO.refl _)
  |(with_reducible exact LeO.none _)
  |(with_reducible refine LeO.ite ?_ ?_)
  |(with_reducible refine LeO.bind ?_ (fun _ => ?_))
  |exact ih0 _ _ _ _ _ _ _
  |exact impl_PagesGet.mono _ _ _ _
  |exact LeO.none _
  |refine LeO.ite ?_ ?_
  |refine LeO.bind ?_ (fun _ => ?_)
theorem impl_PagesSet.mono : ∀ a0 a1 a2 a3 a4 k, LeO (impl_PagesSet.f k a0 a1 a2 a3 a4) (impl_PagesSet.f (k + 1) a0 a1 a2 a3 a4) := by
 intro a0 a1 a2 a3 a4 k
 have ih0 := impl_PagesSet.mono_l k
 unfold impl_PagesSet.f
 repeat' first
  |(with_reducible exact ih0 _ _ _ _ _ _ _)
  |(with_reducible exact impl_PagesGet.mono _ _ _ _)
  |(with_reducible exact LeO.refl _)
  |(with_reducible exact LeO.none _)
  |(with_reducible refine LeO.ite ?_ ?_)
  |(with_reducible refine LeO.bind ?_ (fun _ => ?_))
  |exact ih0 _ _ _ _ _ _ _
  |exact impl_PagesGet.mono _ _ _ _
  |exact LeO.none _
  |refine LeO.ite ?_ ?_
  |refine LeO.bind ?_ (fun _ => ?_)
def impl_PagesSet.T5 : Bool × List (List Nat × List Nat) := (true, [([], []), ([0], [0]), ([], []), ([], []), ([], []), ([], []), ([3, 4, 5], [3, 4, 5]), ([1, 2, 0, 1, 2, 3, 4, 5, 6], [1, 2]), ([7, 6, 6, 0, 1, 2, 3, 4, 5, 6], [6, 7])])
def impl_PagesSet.B5 : List Nat := [0, 1, 0, 0, 0, 0, 56, 127, 255]
theorem impl_PagesSet.tab5 : rtab .any (opsOf Try.f17 5) = impl_PagesSet.T5 := by kernel_rfl
theorem impl_PagesSet.bits5 : waitsOk impl_PagesSet.T5.2 impl_PagesSet.B5 = true := by kernel_rfl
abbrev z17q0 : Array Bool := bQ 9 0
abbrev z17q1 : Array Bool := bQ 9 1
abbrev z17q2 : Array Bool := bQ 9 5
abbrev z17q3 : Array Bool := bQ 9 13
abbrev z17q4 : Array Bool := bQ 9 29
abbrev z17q5 : Array Bool := bQ 9 61
abbrev z17q6 : Array Bool := bQ 9 63
abbrev z17q7 : Array Bool := bQ 9 127
abbrev z17q8 : Array Bool := bQ 9 255
abbrev z17q9 : Array Bool := bQ 9 511
set_option maxHeartbeats 2000000 in
set_option maxRecDepth 100000 in
theorem impl_PagesSet.calls (k:Nat) (A0_0:Option Addr) (c0_0:Nat) (l0_0:List ByteArray) (A0_1:Option Addr) (c0_1:Nat) (l0_1:List Int) (a1:Int) (a2:Int) (a3:Int) (r1:List ByteArray) (r2:List Int) (r3:Bool) (w:World) (hr0_0:Kd.C Kd.string w A0_0 l0_0.length l0_0) (hc0_0:l0_0.length≤c0_0) (hr0_1:Kd.C (Kd.int .i64) w A0_1 l0_1.length l0_1) (hc0_1:l0_1.length≤c0_1) (h:impl_PagesSet.f k l0_0 l0_1 a1 a2 a3=some (r1,r2,r3)) :
  Calls Try.prog 17 #[.agg #[.slice A0_0 l0_0.length c0_0,.slice A0_1 l0_1.length c0_1],.int .i64 a1,.int .i64 a2,.int .i64 a3] w fun e w'=>∃ v0_ v1_:Value,e=.returned (.tuple #[.agg #[v0_,v1_],.bool r3])∧Kd.R Kd.string 9 w' w.heap.size (fun _=>True) v0_ r1∧Kd.R (Kd.int .i64) 3 w' w.heap.size (fun _=>True) v1_ r2∧Below w.heap.size w w':=by
 have hu26:=Try.underlying26
 have HR0_0:=Am hr0_0
 have HC0_0:=Am hc0_0
 clear hr0_0 hc0_0
 have HR0_1:=Am hr0_1
 have HC0_1:=Am hc0_1
 clear hr0_1 hc0_1
 have HB:=Am (bJ w.heap.size w)
 have H:((impl_PagesGet.f k l0_0 l0_1 a1).bind fun bt249=>(if bt249.2=true then ((impl_in.f a2 0 3).bind fun t251=>(if t251=true then ((impl_in.f a3 0 255).bind fun t252=>(impl_PagesSet.j0 k a1 a2 a3 bt249.1 (!t252) l0_0 l0_1)) else (impl_PagesSet.j0 k a1 a2 a3 bt249.1 true l0_0 l0_1))) else (impl_PagesSet.j0 k a1 a2 a3 bt249.1 true l0_0 l0_1)))=some (r1,r2,r3):=h
 clear h
 replace H:=oC H
 obtain ⟨⟨t249,t250⟩,A50,H⟩:=H
 replace H:(if t250=true then ((impl_in.f a2 0 3).bind fun t251=>(if t251=true then ((impl_in.f a3 0 255).bind fun t252=>(impl_PagesSet.j0 k a1 a2 a3 t249 (!t252) l0_0 l0_1)) else (impl_PagesSet.j0 k a1 a2 a3 t249 true l0_0 l0_1))) else (impl_PagesSet.j0 k a1 a2 a3 t249 true l0_0 l0_1))=some (r1,r2,r3):=H
 have A5:=Am A50
 clear A50
 have HC6:=Am H
 clear H
 go_enter Try.func17,Try.ntmps17
 go_upto_region 2 with (first|((with_reducible refine gD (N:=4) rfl ?_);refine bI ?hg (N:=4) ?hd (cs:=#[.slice A0_0 l0_0.length c0_0,.slice A0_1 l0_1.length c0_1]) (t:=26) ?hr ?_;(case hd=>rfl);(case hg=>rfl);(case hr=>first|(go_simp;done)|(go_simp;rfl));intro Bg hg w7 hbox hb;have n0_:=Am (bP (by repeat (first|(with_reducible first|exact HB.out|apply oA|apply pN|apply o1)|exact HB.out)) hb);have n1_:=Am (hbox);have n2_:=Am ((by rw [hg];exact (bZ (by repeat (first|(with_reducible first|exact HB.out|apply oA|apply pN|apply o1)|exact HB.out))):w.heap.size≤Bg));have n3_:=Am ((by rw [hg];exact (bZ (by repeat (first|(with_reducible first|exact HB.out|apply oA|apply pN|apply o1)|exact HB.out))):w.heap.size≤Bg));clear HB;revert n0_ n1_ n2_ n3_;intro HB Ba BQ Bh;clear hb hbox hg)|((with_reducible refine gD (N:=8) rfl ?_);refine bI ?hg (N:=8) ?hd (cs:=#[.slice none 0 0,.slice none 0 0]) (t:=26) ?hr ?_;(case hd=>rfl);(case hg=>rfl);(case hr=>first|(go_simp;done)|(go_simp;rfl));intro Be hg w8 hbox hb;have n0_:=Am (bX Ba.out hb);have n1_:=Am (bP (by repeat (first|(with_reducible first|exact HB.out|apply oA|apply pN|apply o1|refine bS ?_ Bh.out)|exact HB.out)) hb);have n2_:=Am (hbox);have n3_:=Am ((by rw [hg];exact (bZ (by repeat (first|(with_reducible first|exact HB.out|apply oA|apply pN|apply o1|refine bS ?_ Bh.out)|exact HB.out))):w.heap.size≤Be));have n4_:=Am ((by rw [hg];exact (bZ (by repeat (first|(with_reducible first|exact HB.out|apply oA|apply pN|apply o1|refine bS ?_ Bh.out)|exact HB.out))):w.heap.size≤Be));have n5_:=Am ((nL Ba.out hg));have n6_:=Am ((nG Ba.out hg));clear Ba HB;revert n0_ n1_ n2_ n3_ n4_ n5_ n6_;intro Ba HB Bb BR Bj Bk Bl;clear hb hbox hg;have B1:=Bk.out;have B2:=Bl.out;have Br:=cz0 Ba.out;have Bs:=cz1 Ba.out;have Bt:=bF Ba.out 0;have Bu:=bF Ba.out 1)|((with_reducible refine gC (f:=20) rfl ?_);refine goesL_ (some 16) rfl rfl Try.func20 (by kernel_rfl) rfl #[.agg #[.slice A0_0 l0_0.length c0_0,.slice A0_1 l0_1.length c0_1],.int .i64 a1] rfl (by (try simp only [lM,lC,lN]);first|done|rfl|(simp only [lD,lT];rfl)) ?_;(with_reducible refine (impl_PagesGet.calls k _ _ l0_0 _ _ l0_1 a1 t249 t250 _ ?side1 ?side2 ?side3 ?side4 A5.out).mono ?_);(case side1=>exact cL (cB HR0_0.out HB.out));(case side2=>exact HC0_0.out);(case side3=>exact cL (cB HR0_1.out HB.out));(case side4=>exact HC0_1.out);rintro e w11 ⟨rfl,hb⟩;refine ⟨_,rfl,?_⟩;have n0_:=Am (bX Ba.out hb);have n1_:=Am (bX Bb.out hb);have n2_:=Am (bP (by repeat (first|(with_reducible first|exact HB.out|apply oA|apply pN|apply o1|refine bS ?_ Bh.out|refine bS ?_ Bj.out)|exact HB.out)) hb);clear Ba Bb HB;revert n0_ n1_ n2_;intro Ba Bb HB;(try clear hb);(try clear hb2);(try clear hk);(try clear hi)))
 (try simp only [Act.put,lA,lZ,lS])
 go_cut [30] (fun v30 wc=>∃ (kq:Nat) (x30_5:Bool),v30=.bool x30_5∧Aside0 (impl_PagesSet.j0 kq a1 a2 a3 t249 x30_5 l0_0 l0_1=some (r1,r2,r3))∧Aside0 (kq≤k)∧Aside0 (wc.heap[Bg]?=some (.cells #[(.slice A0_0 l0_0.length c0_0),(.slice A0_1 l0_1.length c0_1)] 26 (0,0)))∧Aside0 (wc.heap[Be]?=some (.cells #[(.slice none 0 0),(.slice none 0 0)] 26 (0,0)))∧Aside0 (Below w.heap.size w wc))
 case first =>
  have H:=HC6.out
  clear HC6
  by_cases c12:t250=true
  rotate_left
  ·replace c12:=Bool.eq_false_iff.mpr c12
   subst c12
   have H1:(impl_PagesSet.j0 k a1 a2 a3 t249 true l0_0 l0_1)=some (r1,r2,r3):=by rw [if_neg (show ¬ (false=true) by decide)] at H;exact H
   clear H
   have H:=H1
   clear H1
   have H':=Am H
   clear H
   go_wp2
   go_meet
   case rel=>exact ⟨_,(true),(by first|rfl|(simp;done)|(simp [*];done)),H',⟨by first|omega|exact nR _⟩,⟨by (with_reducible repeat (first|refine bN ?_ _|refine bD ?_|refine bA ?_ _));exact Ba.out⟩,⟨by (with_reducible repeat (first|refine bN ?_ _|refine bD ?_|refine bA ?_ _));exact Bb.out⟩,⟨by repeat (first|(with_reducible first|exact HB.out|apply oA|apply pN|apply o1|refine bS ?_ Bh.out|refine bS ?_ Bj.out)|exact HB.out)⟩⟩
  subst c12
  have H1:((impl_in.f a2 0 3).bind fun t251=>(if t251=true then ((impl_in.f a3 0 255).bind fun t252=>(impl_PagesSet.j0 k a1 a2 a3 t249 (!t252) l0_0 l0_1)) else (impl_PagesSet.j0 k a1 a2 a3 t249 true l0_0 l0_1)))=some (r1,r2,r3):=by rw [if_pos rfl] at H;exact H
  clear H
  have H:=H1
  clear H1
  replace H:=oC H
  obtain ⟨t251,A130,H⟩:=H
  replace H:(if t251=true then ((impl_in.f a3 0 255).bind fun t252=>(impl_PagesSet.j0 k a1 a2 a3 t249 (!t252) l0_0 l0_1)) else (impl_PagesSet.j0 k a1 a2 a3 t249 true l0_0 l0_1))=some (r1,r2,r3):=H
  have A13:=Am A130
  clear A130
  by_cases c14:t251=true
  rotate_left
  ·replace c14:=Bool.eq_false_iff.mpr c14
   subst c14
   have H1:(impl_PagesSet.j0 k a1 a2 a3 t249 true l0_0 l0_1)=some (r1,r2,r3):=by rw [if_neg (show ¬ (false=true) by decide)] at H;exact H
   clear H
   have H:=H1
   clear H1
   have H':=Am H
   clear H
   go_wp2_with (first|(go_at_call 48;(with_reducible refine (impl_in.calls a2 0 3 false _ A13.out).mono ?_);rintro e w' ⟨rfl,⟨nd,rfl⟩⟩))
   go_meet
   case rel=>exact ⟨_,(true),(by first|rfl|(simp;done)|(simp [*];done)),H',⟨by first|omega|exact nR _⟩,⟨by (with_reducible repeat (first|refine bN ?_ _|refine bD ?_|refine bA ?_ _));exact Ba.out⟩,⟨by (with_reducible repeat (first|refine bN ?_ _|refine bD ?_|refine bA ?_ _));exact Bb.out⟩,⟨by repeat (first|(with_reducible first|exact HB.out|apply oA|apply pN|apply o1|refine bS ?_ Bh.out|refine bS ?_ Bj.out)|exact HB.out)⟩⟩
  subst c14
  have H1:((impl_in.f a3 0 255).bind fun t252=>(impl_PagesSet.j0 k a1 a2 a3 t249 (!t252) l0_0 l0_1))=some (r1,r2,r3):=by rw [if_pos rfl] at H;exact H
  clear H
  have H:=H1
  clear H1
  replace H:=oC H
  obtain ⟨t252,A150,H⟩:=H
  replace H:(impl_PagesSet.j0 k a1 a2 a3 t249 (!t252) l0_0 l0_1)=some (r1,r2,r3):=H
  have A15:=Am A150
  clear A150
  have H':=Am H
  clear H
  go_wp2_with (first|(go_at_call 48;(with_reducible refine (impl_in.calls a2 0 3 true _ A13.out).mono ?_);rintro e w' ⟨rfl,⟨nd,rfl⟩⟩)|(go_at_call 48;(with_reducible refine (impl_in.calls a3 0 255 t252 _ A15.out).mono ?_);rintro e w' ⟨rfl,⟨nd,rfl⟩⟩))
  go_meet
  case rel=>exact ⟨_,(!t252),(by first|rfl|(simp;done)|(simp [*];done)),H',⟨by first|omega|exact nR _⟩,⟨by (with_reducible repeat (first|refine bN ?_ _|refine bD ?_|refine bA ?_ _));exact Ba.out⟩,⟨by (with_reducible repeat (first|refine bN ?_ _|refine bD ?_|refine bA ?_ _));exact Bb.out⟩,⟨by repeat (first|(with_reducible first|exact HB.out|apply oA|apply pN|apply o1|refine bS ?_ Bh.out|refine bS ?_ Bj.out)|exact HB.out)⟩⟩
 case rest =>
  clear HC6
  try clear c1
  try clear c2
  try clear p2
  try clear c9
  try clear c12
  try clear c14
  try clear Br
  try clear Bs
  try clear Bt
  try clear Bu
  obtain ⟨kq,x30_5,rfl,HA,B3,Ba,Bb,HB⟩:=hcut
  cases kq with
 |zero=>exact absurd HA.out (by simp [impl_PagesSet.j0])
 |succ kj5 =>
   have H:=HA.out
   clear HA
   simp only [impl_PagesSet.j0] at H
   by_cases c16:x30_5=true
   ·subst c16
    have H1:(some (([]:List ByteArray),([]:List Int),false))=some (r1,r2,r3):=by rw [if_pos rfl] at H;exact H
    clear H
    have H:=H1
    clear H1
    simp only [Option.some.injEq,Prod.mk.injEq] at H
    obtain ⟨rfl,rfl,rfl⟩:=H
    have BS:=Bl.out
    have BT:=Bk.out
    have Bw:=cz0 Bb.out
    have Bx:=cz1 Bb.out
    have By:=bF Bb.out 0
    have Bz:=bF Bb.out 1
    go_wp2
    refine bodyPost_ret (results_ct rfl _ _ Be 26 #[.slice none 0 0,.slice none 0 0] (0,0) _ rfl (by (with_reducible repeat (first|refine bN ?_ _|refine bD ?_|refine bA ?_ _));refine bT (cs:=#[.slice none 0 0,.slice none 0 0]) ?_ 1 _ rfl;(with_reducible repeat (first|refine bN ?_ _|refine bD ?_|refine bA ?_ _));refine bT (cs:=#[.slice none 0 0,.slice none 0 0]) ?_ 0 _ rfl;(with_reducible repeat (first|refine bN ?_ _|refine bD ?_|refine bA ?_ _));exact Bb.out) Try.underlying26 rfl (by kernel_rfl)) rfl ?_
    exact ⟨_,_,by first|rfl|(simp [errW_none,errW_some] <;> rfl)|(simp [*,errW_none,errW_some] <;> rfl),by first|exact Kd.R_nil _ _ _ _ _|exact Kd.N_nil _ _ _ _ _|exact Kd.V_nil _ _ _ _ _|exact Kd.Q_nil _ _ _ _ _|exact Kd.S_nil _ _ _ _ _,by first|exact Kd.R_nil _ _ _ _ _|exact Kd.N_nil _ _ _ _ _|exact Kd.V_nil _ _ _ _ _|exact Kd.Q_nil _ _ _ _ _|exact Kd.S_nil _ _ _ _ _,by repeat (first|(with_reducible first|exact HB.out|apply oA|apply pN|apply o1|refine bS ?_ Bh.out|refine bS ?_ Bj.out)|exact HB.out)⟩
   replace c16:=Bool.eq_false_iff.mpr c16
   subst c16
   have H1:((impl_Pages_clone.f l0_0 l0_1).bind fun bt253=>((impl_with.f t249 a2 a3).bind fun t260=>(if 0≤a1 then (if a1<(bt253.1.length:Int) then (some ((bt253.1.set (a1:Int).toNat t260),bt253.2,true)) else (none)) else (none))))=some (r1,r2,r3):=by rw [if_neg (show ¬ (false=true) by decide)] at H;exact H
   clear H
   have H:=H1
   clear H1
   replace H:=oC H
   obtain ⟨⟨t253,t256⟩,A190,H⟩:=H
   replace H:((impl_with.f t249 a2 a3).bind fun t260=>(if 0≤a1 then (if a1<(t253.length:Int) then (some ((t253.set (a1:Int).toNat t260),t256,true)) else (none)) else (none)))=some (r1,r2,r3):=H
   have A19:=Am A190
   clear A190
   replace H:=oC H
   obtain ⟨t260,A200,H⟩:=H
   replace H:(if 0≤a1 then (if a1<(t253.length:Int) then (some ((t253.set (a1:Int).toNat t260),t256,true)) else (none)) else (none))=some (r1,r2,r3):=H
   have A20:=Am A200
   clear A200
   by_cases c21:0≤a1
   rotate_left
   ·rw [if_neg c21] at H
    exact absurd H (by simp)

   rw [if_pos c21] at H
   have c21b0:decide (0≤a1)=true:=dT c21
   clear c21
   by_cases c22:a1<(t253.length:Int)
   rotate_left
   ·rw [if_neg c22] at H
    exact absurd H (by simp)
   rw [if_pos c22] at H
   have c22b0:decide (a1<(t253.length:Int))=true:=dT c22
   clear c22
   obtain ⟨y261,hy261⟩:∃ y_:List ByteArray,y_=(t253.set (a1:Int).toNat t260):=⟨_,rfl⟩
   replace H:(some (y261,t256,true))=some (r1,r2,r3):=by first|(rw [hy261];with_reducible exact H)|(have H2_:=(Option.bind_some _ _).symm.trans H;rw [hy261];with_reducible exact H2_)|(have H2_:=(Option.bind_some _ _).symm.trans H;with_reducible exact H2_)|with_reducible exact H|(rw [hy261];exact H)|exact H
   have Ny261:=Am hy261
   clear hy261
   simp only [Option.some.injEq,Prod.mk.injEq] at H
   obtain ⟨rfl,rfl,rfl⟩:=H
   have BU:=Bk.out
   have BV:=Bl.out
   have BA:=cz0 Ba.out
   have BB:=cz1 Ba.out
   have BC:=bF Ba.out 0
   have BD:=bF Ba.out 1
   try go_wp2_with (first|((with_reducible refine gC (f:=45) rfl ?_);refine goesL_ (some 33) rfl rfl Try.func45 (by kernel_rfl) rfl #[.agg #[.slice A0_0 l0_0.length c0_0,.slice A0_1 l0_1.length c0_1]] rfl (by (try simp only [lM,lC,lN]);first|done|rfl|(simp only [lD,lT];rfl)) ?_;(with_reducible refine (impl_Pages_clone.calls _ _ l0_0 _ _ l0_1 t253 t256 _ ?side1 ?side2 ?side3 ?side4 A19.out).mono ?_);(case side1=>exact cL (cB HR0_0.out HB.out));(case side2=>exact HC0_0.out);(case side3=>exact cL (cB HR0_1.out HB.out));(case side4=>exact HC0_1.out);rintro e w26 ⟨v254,v257,rfl,ho0,ho1,hb⟩;refine ⟨_,rfl,?_⟩;have n0_:=Am (rW ho0 (bZ (by repeat (first|(with_reducible first|exact HB.out|apply oA|apply pN|apply o1|refine bS ?_ Bh.out|refine bS ?_ Bj.out)|exact HB.out))));have n1_:=Am (rW ho1 (bZ (by repeat (first|(with_reducible first|exact HB.out|apply oA|apply pN|apply o1|refine bS ?_ Bh.out|refine bS ?_ Bj.out)|exact HB.out))));have n2_:=Am (bX Ba.out hb);have n3_:=Am (bX Bb.out hb);have n4_:=Am (bP (by repeat (first|(with_reducible first|exact HB.out|apply oA|apply pN|apply o1|refine bS ?_ Bh.out|refine bS ?_ Bj.out)|exact HB.out)) hb);clear Ba Bb HB;revert n0_ n1_ n2_ n3_ n4_;intro Bf Bi Ba Bb HB;(try clear hb);(try clear hb2);(try clear hk);(try clear hi);(try clear ho0);(try clear ho1))|((with_reducible refine gD (N:=12) rfl ?_);refine bI ?hg (N:=12) ?hd (cs:=#[.slice none 0 0,.slice none 0 0]) (t:=26) ?hr ?_;(case hd=>rfl);(case hg=>rfl);(case hr=>first|(go_simp;done)|(go_simp;rfl));intro Bc hg w27 hbox hb;have n0_:=Am (rB (rL Bf.out) hb);have n1_:=Am (rB (rL Bi.out) hb);have n2_:=Am (bX Ba.out hb);have n3_:=Am (bX Bb.out hb);have n4_:=Am (bP (by repeat (first|(with_reducible first|exact HB.out|apply oA|apply pN|apply o1|refine bS ?_ Bh.out|refine bS ?_ Bj.out)|exact HB.out)) hb);have n5_:=Am (hbox);have n6_:=Am ((by rw [hg];exact (bZ (by repeat (first|(with_reducible first|exact HB.out|apply oA|apply pN|apply o1|refine bS ?_ Bh.out|refine bS ?_ Bj.out)|exact HB.out))):w.heap.size≤Bc));have n7_:=Am ((by rw [hg];exact (bZ (by repeat (first|(with_reducible first|exact HB.out|apply oA|apply pN|apply o1|refine bS ?_ Bh.out|refine bS ?_ Bj.out)|exact HB.out))):w.heap.size≤Bc));have n8_:=Am ((nL Ba.out hg));have n9_:=Am ((nG Ba.out hg));have n10_:=Am ((nL Bb.out hg));have n11_:=Am ((nG Bb.out hg));clear Bf Bi Ba Bb HB;revert n0_ n1_ n2_ n3_ n4_ n5_ n6_ n7_ n8_ n9_ n10_ n11_;intro Bf Bi Ba Bb HB Bd BW Bo Bm Bp Bn Bq;clear hb hbox hg;obtain ⟨Ao28,co28,eo28⟩:=rC Bf.out;subst eo28;have BX:=Bp.out;have BY:=Bm.out;have BZ:=Bq.out;have B0:=Bn.out;have BE:=cz0 Bd.out;have BF:=cz1 Bd.out;have BG:=bF Bd.out 0;have BH:=bF Bd.out 1;obtain ⟨Ao32,co32,eo32⟩:=rC Bi.out;subst eo32))
   have n0_:Aside0 (Kd.R Kd.string 9 ((w27.setCell ⟨Bc,0,none⟩ (.slice Ao28 t253.length co28)).setCell ⟨Bc,1,none⟩ (.slice Ao32 t256.length co32)) w.heap.size (fun _=>True) (.slice Ao28 t253.length co28) t253):=⟨by (with_reducible repeat (first|apply rA|apply rN|apply rD));exact rM (rF (p:=⟨Bc,1,none⟩) (rF (p:=⟨Bc,0,none⟩) (rT Bf.out Bd.out (by decide)) (fun _ hk=>hk.2) (.slice Ao28 t253.length co28)) (fun _ hk=>hk.2) (.slice Ao32 t256.length co32)) (fun _ hk=>trivial)⟩
   have n1_:Aside0 (Kd.R (Kd.int .i64) 3 ((w27.setCell ⟨Bc,0,none⟩ (.slice Ao28 t253.length co28)).setCell ⟨Bc,1,none⟩ (.slice Ao32 t256.length co32)) w.heap.size (fun _=>True) (.slice Ao32 t256.length co32) t256):=⟨by (with_reducible repeat (first|apply rA|apply rN|apply rD));exact rM (rF (p:=⟨Bc,1,none⟩) (rF (p:=⟨Bc,0,none⟩) (rT Bi.out Bd.out (by decide)) (fun _ hk=>hk.2) (.slice Ao28 t253.length co28)) (fun _ hk=>hk.2) (.slice Ao32 t256.length co32)) (fun _ hk=>trivial)⟩
   have n2_:Aside0 (((w27.setCell ⟨Bc,0,none⟩ (.slice Ao28 t253.length co28)).setCell ⟨Bc,1,none⟩ (.slice Ao32 t256.length co32)).heap[Bg]?=some (.cells #[.slice A0_0 l0_0.length c0_0,.slice A0_1 l0_1.length c0_1] 26 (0,0))):=⟨by (with_reducible repeat (first|refine bN ?_ _|refine bD ?_|refine bA ?_ _|refine bE ?_ Bm.out _));exact Ba.out⟩
   have n3_:Aside0 (((w27.setCell ⟨Bc,0,none⟩ (.slice Ao28 t253.length co28)).setCell ⟨Bc,1,none⟩ (.slice Ao32 t256.length co32)).heap[Be]?=some (.cells #[.slice none 0 0,.slice none 0 0] 26 (0,0))):=⟨by (with_reducible repeat (first|refine bN ?_ _|refine bD ?_|refine bA ?_ _|refine bE ?_ Bn.out _));exact Bb.out⟩
   have n4_:Aside0 (((w27.setCell ⟨Bc,0,none⟩ (.slice Ao28 t253.length co28)).setCell ⟨Bc,1,none⟩ (.slice Ao32 t256.length co32)).heap[Bc]?=some (.cells #[.slice Ao28 t253.length co28,.slice Ao32 t256.length co32] 26 (0,0))):=⟨by (with_reducible repeat (first|refine bN ?_ _|refine bD ?_|refine bA ?_ _));refine bT (cs:=#[.slice Ao28 t253.length co28,.slice none 0 0]) ?_ 1 _ rfl;(with_reducible repeat (first|refine bN ?_ _|refine bD ?_|refine bA ?_ _));refine bT (cs:=#[.slice none 0 0,.slice none 0 0]) ?_ 0 _ rfl;(with_reducible repeat (first|refine bN ?_ _|refine bD ?_|refine bA ?_ _));exact Bd.out⟩
   have n5_:Aside0 (Below w.heap.size w ((w27.setCell ⟨Bc,0,none⟩ (.slice Ao28 t253.length co28)).setCell ⟨Bc,1,none⟩ (.slice Ao32 t256.length co32))):=⟨by repeat (first|(with_reducible first|exact HB.out|apply oA|apply pN|apply o1|refine bS ?_ Bh.out|refine bS ?_ Bj.out|refine bS ?_ Bo.out)|exact HB.out)⟩
   (try clear Bf)
   (try clear Bi)
   (try clear Ba)
   (try clear Bb)
   (try clear Bd)
   (try clear HB)
   generalize ((w27.setCell ⟨Bc,0,none⟩ (.slice Ao28 t253.length co28)).setCell ⟨Bc,1,none⟩ (.slice Ao32 t256.length co32))=w33 at n0_ n1_ n2_ n3_ n4_ n5_ ⊢
   have Bf:=n0_
   have Bi:=n1_
   have Ba:=n2_
   have Bb:=n3_
   have Bd:=n4_
   have HB:=n5_
   clear n0_ n1_ n2_ n3_ n4_ n5_
   have n0_:=Am (rD Bf.out)
   have n1_:=Am (rD Bi.out)
   have n2_:=Am (bD Ba.out)
   have n3_:=Am (bD Bb.out)
   have n4_:=Am (bD Bd.out)
   have n5_:=Am (o1 HB.out)
   clear Bf
   clear Bi
   clear Ba
   clear Bb
   clear Bd
   clear HB
   have Bf:=n0_
   have Bi:=n1_
   have Ba:=n2_
   have Bb:=n3_
   have Bd:=n4_
   have HB:=n5_
   clear n0_ n1_ n2_ n3_ n4_ n5_
   refine start_ (n:=9) (S:=fun w'=>w'.cell? ⟨Bc,0,none⟩=some (.slice Ao28 t253.length co28)∧w'.cell? ⟨Bc,1,none⟩=some (.slice Ao32 t256.length co32)) (ds:=[8]) z17q0 (by kernel_rfl) rfl rfl ⟨(bC Bd.out 0).trans rfl,(bC Bd.out 1).trans rfl⟩ (fun hHeld=>?_);refine with_st impl_PagesSet.tab5 impl_PagesSet.bits5 (fun _ _ _ _ _ h=>h) (fun HT_=>?_)
   generalize w33.drew=w34 at Bf Bi Ba Bb Bd HB hHeld ⊢
   refine pS 0 34 z17q1 HT_ rfl rfl (by kernel_rfl) (by rfl) (by intro w';go_simp;with_reducible rfl) (by simp only [Act.put,lA,lZ,lS,iw,jw];rfl) ?_
   refine pS 2 36 z17q2 HT_ rfl rfl (by kernel_rfl) (by rfl) (by intro w';go_simp;with_reducible rfl) (by simp only [Act.put,lA,lZ,lS,iw,jw];rfl) ?_
   refine pS 3 37 z17q3 HT_ rfl rfl (by kernel_rfl) (by rfl) (by intro w';go_simp;with_reducible rfl) (by simp only [Act.put,lA,lZ,lS,iw,jw];rfl) ?_
   refine pS 4 38 z17q4 HT_ rfl rfl (by kernel_rfl) (by rfl) (by intro w';go_simp;with_reducible rfl) (by simp only [Act.put,lA,lZ,lS,iw,jw];rfl) ?_
   refine pS 5 39 z17q5 HT_ rfl rfl (by kernel_rfl) (by rfl) (by intro w';go_simp;with_reducible rfl) (by simp only [Act.put,lA,lZ,lS,iw,jw];rfl) ?_
   refine tS 1 35 z17q6 HT_ hHeld rfl rfl (by kernel_rfl) (by rfl) (by rintro w' ⟨s0,s1⟩;go_simp;with_reducible rfl) (by simp only [Act.put,lA,lZ,lS,iw,jw];rfl) ?_
   refine oS 6 40 z17q7 HT_ rfl rfl (by kernel_rfl) (by decide) (fun K hK=>?_)
   refine goes_ Try.func49 (by kernel_rfl) rfl #[.string t249,.int .i64 a2,.int .i64 a3] (by rfl) rfl rfl (by (try simp only [lM,lC,lN]);first|done|rfl|(simp only [lD,lT];rfl)) ?_
   with_reducible refine (impl_with.calls t249 a2 a3 t260 _ A20.out).mono ?_
   rintro e w35 ⟨rfl,hb⟩
   refine ⟨_,rfl,?_⟩
   have n0_:=Am (rB (rL Bf.out) hb)
   have n1_:=Am (rB (rL Bi.out) hb)
   have n2_:=Am (bX Ba.out hb)
   have n3_:=Am (bX Bb.out hb)
   have n4_:=Am (bX Bd.out hb)
   have n5_:=Am (bP (by repeat (first|(with_reducible first|exact HB.out|apply oA|apply pN|apply o1|refine bS ?_ Bh.out|refine bS ?_ Bj.out|refine bS ?_ Bo.out)|exact HB.out)) hb)
   clear Bf
   clear Bi
   clear Ba
   clear Bb
   clear Bd
   clear HB
   have Bf:=n0_
   have Bi:=n1_
   have Ba:=n2_
   have Bb:=n3_
   have Bd:=n4_
   have HB:=n5_
   clear n0_ n1_ n2_ n3_ n4_ n5_
   (try clear hb)
   (try clear hb2)
   (try clear hk)
   (try clear hi)
   have p23:0≤(a1:Int):=oE (by first|(with_reducible assumption)|assumption)
   have q23:(a1:Int)<((t253.length:Int):Int):=oE (by first|(with_reducible assumption)|assumption)
   obtain ⟨go23,co23,eo23,Bv,gl23,cl23,HG23⟩:=Kd.R_form Bf.out (by omega)
   (first|cases eo23|(injection eo23 with ea_ en_ ec_;(first|subst ea_|(injection ea_ with ea_;subst ea_));subst ec_;clear en_))
   have GB23:=Am Bv
   have GG23:=Am HG23
   clear Bv gl23 HG23
   obtain ⟨hx23_0,hf23_0⟩:=Kd.R_celln (⟨#[]⟩:ByteArray) Bf.out (a1:Int) p23 q23
   replace p23:=eq_true p23
   replace q23:=eq_true q23
   have HP36:=Kd.R_putn Bf.out (a1:Int) t260
   rw [← Ny261.out] at HP36
   have HQ36:=Am HP36
   clear HP36
   refine hK.out _ _ ⟨(bC Bd.out 0).trans rfl,(bC Bd.out 1).trans rfl⟩ (fun hHeld=>?_)
   clear hK K
   refine norm_ (by show Act.put _ (some 40) _=_;simp only [Act.put,lA,lZ,lS,iw,jw];rfl) ?_
   refine pS 7 41 z17q8 HT_ rfl rfl (by kernel_rfl) (by rfl) (by intro w';go_simp;with_reducible rfl) (by simp only [Act.put,lA,lZ,lS,iw,jw];rfl) ?_
   refine last_ (i:=8) (N:=none) z17q9 rfl rfl (one_of HT_.out (by kernel_rfl)) (by decide) (fun K hK=>?_)
   refine skip_ (w1:=?_) (by rfl) rfl ?_ ?_
   rotate_left;(go_simp;rfl)
   refine hK.out _ _ ?_
   clear hK K
   refine done_ (done_of HT_.out (by kernel_rfl)) ?_
   have n0_:Aside0 (Kd.R Kd.string 9 (w35.setCell ⟨go23,(a1:Int).toNat,none⟩ (.string t260)) w.heap.size (fun _=>True) (.slice (some ⟨go23,0,none⟩) t253.length co28) y261):=⟨by (with_reducible repeat (first|apply rA|apply rN|apply rD));exact HQ36.out⟩
   have n1_:Aside0 (Kd.R (Kd.int .i64) 3 (w35.setCell ⟨go23,(a1:Int).toNat,none⟩ (.string t260)) w.heap.size (fun _=>True) (.slice Ao32 t256.length co32) t256):=⟨by (with_reducible repeat (first|apply rA|apply rN|apply rD));exact rM (rF (p:=⟨go23,(a1:Int).toNat,none⟩) (rT Bi.out GG23.out (by decide)) (fun _ hk=>hk.2) (.string t260)) (fun _ hk=>trivial)⟩
   have n2_:Aside0 ((w35.setCell ⟨go23,(a1:Int).toNat,none⟩ (.string t260)).heap[Bg]?=some (.cells #[.slice A0_0 l0_0.length c0_0,.slice A0_1 l0_1.length c0_1] 26 (0,0))):=⟨by (with_reducible repeat (first|refine bN ?_ _|refine bD ?_|refine bA ?_ _));refine bE ?_ (by have h_:=rE Bf.out Ba.out (by decide);intro e_;exact h_ (by rw [e_];rfl)) _;(with_reducible repeat (first|refine bN ?_ _|refine bD ?_|refine bA ?_ _));exact Ba.out⟩
   have n3_:Aside0 ((w35.setCell ⟨go23,(a1:Int).toNat,none⟩ (.string t260)).heap[Be]?=some (.cells #[.slice none 0 0,.slice none 0 0] 26 (0,0))):=⟨by (with_reducible repeat (first|refine bN ?_ _|refine bD ?_|refine bA ?_ _));refine bE ?_ (by have h_:=rE Bf.out Bb.out (by decide);intro e_;exact h_ (by rw [e_];rfl)) _;(with_reducible repeat (first|refine bN ?_ _|refine bD ?_|refine bA ?_ _));exact Bb.out⟩
   have n4_:Aside0 ((w35.setCell ⟨go23,(a1:Int).toNat,none⟩ (.string t260)).heap[Bc]?=some (.cells #[.slice (some ⟨go23,0,none⟩) t253.length co28,.slice Ao32 t256.length co32] 26 (0,0))):=⟨by (with_reducible repeat (first|refine bN ?_ _|refine bD ?_|refine bA ?_ _));refine bE ?_ (by have h_:=rE Bf.out Bd.out (by decide);intro e_;exact h_ (by rw [e_];rfl)) _;(with_reducible repeat (first|refine bN ?_ _|refine bD ?_|refine bA ?_ _));exact Bd.out⟩
   have n5_:Aside0 (Below w.heap.size w (w35.setCell ⟨go23,(a1:Int).toNat,none⟩ (.string t260))):=⟨by repeat (first|(with_reducible first|exact HB.out|apply oA|apply pN|apply o1|refine bS ?_ GB23.out|refine bS ?_ Bh.out|refine bS ?_ Bj.out|refine bS ?_ Bo.out)|exact HB.out)⟩
   (try clear Bf)
   (try clear Bi)
   (try clear Ba)
   (try clear Bb)
   (try clear Bd)
   (try clear HB)
   generalize (w35.setCell ⟨go23,(a1:Int).toNat,none⟩ (.string t260))=w37 at n0_ n1_ n2_ n3_ n4_ n5_ ⊢
   have Bf:=n0_
   have Bi:=n1_
   have Ba:=n2_
   have Bb:=n3_
   have Bd:=n4_
   have HB:=n5_
   clear n0_ n1_ n2_ n3_ n4_ n5_
   have BI:=cz0 Bd.out
   have BJ:=cz1 Bd.out
   have BK:=bF Bd.out 0
   have BL:=bF Bd.out 1
   have BM:=cz0 Bb.out
   have BN:=cz1 Bb.out
   have BO:=bF Bb.out 0
   have BP:=bF Bb.out 1
   try go_wp2
   refine bodyPost_ret (results_ct rfl _ _ Be 26 #[.slice (some ⟨go23,0,none⟩) t253.length co28,.slice Ao32 t256.length co32] (0,0) _ rfl (by (with_reducible repeat (first|refine bN ?_ _|refine bD ?_|refine bA ?_ _));refine bT (cs:=#[.slice (some ⟨go23,0,none⟩) t253.length co28,.slice none 0 0]) ?_ 1 _ rfl;(with_reducible repeat (first|refine bN ?_ _|refine bD ?_|refine bA ?_ _));refine bT (cs:=#[.slice none 0 0,.slice none 0 0]) ?_ 0 _ rfl;(with_reducible repeat (first|refine bN ?_ _|refine bD ?_|refine bA ?_ _));exact Bb.out) Try.underlying26 rfl (by kernel_rfl)) rfl ?_
   exact ⟨_,_,by first|rfl|(simp [errW_none,errW_some] <;> rfl)|(simp [*,errW_none,errW_some] <;> rfl),by (with_reducible repeat (first|apply rA|apply rN|apply rD));exact rM (rF (p:=⟨Be,1,none⟩) (rF (p:=⟨Be,0,none⟩) (rT Bf.out Bb.out (by decide)) (fun _ hk=>hk.2) (.slice (some ⟨go23,0,none⟩) t253.length co28)) (fun _ hk=>hk.2) (.slice Ao32 t256.length co32)) (fun _ hk=>trivial),by (with_reducible repeat (first|apply rA|apply rN|apply rD));exact rM (rF (p:=⟨Be,1,none⟩) (rF (p:=⟨Be,0,none⟩) (rT Bi.out Bb.out (by decide)) (fun _ hk=>hk.2) (.slice (some ⟨go23,0,none⟩) t253.length co28)) (fun _ hk=>hk.2) (.slice Ao32 t256.length co32)) (fun _ hk=>trivial),by repeat (first|(with_reducible first|exact HB.out|apply oA|apply pN|apply o1|refine bS ?_ Bh.out|refine bS ?_ Bj.out|refine bS ?_ Bo.out)|exact HB.out)⟩
end Go.Proofs.Ytpdfkbggaihfpaa.PFnPagesSet
