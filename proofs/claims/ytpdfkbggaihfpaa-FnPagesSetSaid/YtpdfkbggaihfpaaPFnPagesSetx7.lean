/- Proved here, without a condition beyond those that each theorem states: what the Go functions named below do is what the plain functions of the same names say. Written by xprint.py, a program of this session. -/
import Derived.Test.YtpdfkbggaihfpaaPFnPagesSetx0
namespace Go.Proofs.Ytpdfkbggaihfpaa.PFnPagesSet
open Go.RowKit Go.Proofs.YtpdfkbggaihfpaaW.PrintWords Go.Proofs.YtpdfkbggaihfpaaW.PrintLast Go.Proofs.YtpdfkbggaihfpaaW.PrintMore
attribute [local go_sem] max2_int min2_int max_two min_two max_three min_three max_four min_four   -- for this text's walks alone
set_option linter.unusedVariables false
set_option linter.unusedSimpArgs false

attribute [local go_sem ↓] isSome_setCell_
/-! ### impl_in: function 48 -/
def impl_in.f (a0 : Int) (a1 : Int) (a2 : Int) : Option (Bool) := if a0 ≥ a1 then (some (decide (a0 ≤ a2))) else (some false)
set_option maxHeartbeats 2000000 in
set_option maxRecDepth 100000 in
theorem impl_in.calls (a0:Int) (a1:Int) (a2:Int) (r:Bool) (w:World) (h:impl_in.f a0 a1 a2=some r) :
  Calls Try.prog 48 #[.int .i64 a0,.int .i64 a1,.int .i64 a2] w fun e w'=>e=.returned (.bool r)∧Drawn0 w w':=by
 have H:(if a0 ≥ a1 then (some (decide (a0≤a2))) else (some false))=some r:=h
 clear h
 by_cases c4:a0 ≥ a1
 ·rw [if_pos c4] at H
  have c4b0:decide (a1≤a0)=true:=dT c4
  clear c4
  obtain rfl:=oJ H
  go_enter Try.func48,Try.ntmps48
  go_wp2
  go_ret
  exact ⟨by first|rfl|(simp;done)|(simp [*];done),by repeat (first|exact Drawn0.refl _|apply Drawn0.step)⟩
 rw [if_neg c4] at H
 have c4b0:decide (a1≤a0)=false:=dF c4
 clear c4
 obtain rfl:=oJ H
 go_enter Try.func48,Try.ntmps48
 go_wp2
 go_ret
 exact ⟨by first|rfl|(simp;done)|(simp [*];done),by repeat (first|exact Drawn0.refl _|apply Drawn0.step)⟩

/-! ### impl_PagesOk: function 29 -/
mutual
def impl_PagesOk.j0 : Nat → Bool → List ByteArray → List Int → Option (Bool)
|0, _, _, _ => none
|k + 1, x19, x220000, x220001 => if x19 = true then (some false) else (impl_PagesOk.l0 k x220001 (x220001.length : Int) 0 x220000 x220001)
def impl_PagesOk.l0 : Nat → List Int → Int → Int → List ByteArray → List Int → Option (Bool)
|0, _, _, _, _, _ => none
|k + 1, x21, x22, x23, x220000, x220001 => if x23 < x22 then (if 0 ≤ x23 then (if x23 < (x21.length : Int) then (if (rd x21 x23) = 0 then ((impl_in.f (rd x21 x23) 0 99).bind fun t222 => (if t222 = true then (if x23 < (x220000.length : Int) then (if ((rdOf ByteArray.empty x220000 x23).size : Int) = 0 then (impl_PagesOk.l0 k x21 x22 (wrap64 (x23 + 1)) x220000 x220001) else (some false)) else (none)) else (some false))) else ((impl_in.f (rd x21 x23) 0 99).bind fun t224 => (if t224 = true then (if x23 < (x220000.length : Int) then (if ((rdOf ByteArray.empty x220000 x23).size : Int) = 4 then (impl_PagesOk.l0 k x21 x22 (wrap64 (x23 + 1)) x220000 x220001) else (some false)) else (none)) else (some false)))) else (none)) else (none)) else (some true)
end
def impl_PagesOk.f (k : Nat) (l0_0 : List ByteArray) (l0_1 : List Int) : Option (Bool) := if (l0_0.length : Int) = (l0_1.length : Int) then ((impl_in.f (l0_0.length : Int) 1 12).bind fun t220 => (impl_PagesOk.j0 k (!t220) l0_0 l0_1)) else (impl_PagesOk.j0 k true l0_0 l0_1)
theorem impl_PagesOk.mono_l : ∀ k, (∀ y0 y1 y2, LeO (impl_PagesOk.j0 k y0 y1 y2) (impl_PagesOk.j0 (k + 1) y0 y1 y2)) ∧ (∀ y0 y1 y2 y3 y4, LeO (impl_PagesOk.l0 k y0 y1 y2 y3 y4) (impl_PagesOk.l0 (k + 1) y0 y1 y2 y3 y4))
|0 => ⟨fun _ _ _ r h => by simp [impl_PagesOk.j0] at h, fun _ _ _ _ _ r h => by simp [impl_PagesOk.l0] at h⟩
|k + 1 => by
  obtain ⟨ih0, ih1⟩ := impl_PagesOk.mono_l k
  refine ⟨?_, ?_⟩
  ·intro y0 y1 y2
   unfold impl_PagesOk.j0
   repeat' first
  |(with_reducible exact ih0 _ _ _)
  |(with_reducible exact ih1 _ _ _ _ _)
  |(with_reducible exact LeO.refl _)
  |(with_reducible exact LeO.none _)
  |(with_reducible refine LeO.ite ?_ ?_)
  |(with_reducible refine LeO.bind ?_ (fun _ => ?_))
  |exact ih0 _ _ _
  |exact ih1 _ _ _ _ _
  |exact LeO.none _
  |refine LeO.ite ?_ ?_
  |refine LeO.bind ?_ (fun _ => ?_)
  ·intro y0 y1 y2 y3 y4
   unfold impl_PagesOk.l0
   repeat' first
  |(with_reducible exact ih0 _ _ _)
  |(with_reducible exact ih1 _ _ _ _ _)
  |(with_reducible exact LeO.refl _)
  |(with_reducible exact LeO.none _)
  |(with_reducible refine LeO.ite ?_ ?_)
  |(with_reducible refine LeO.bind ?_ (fun _ => ?_))
  |exact ih0 _ _ _
  |exact ih1 _ _ _ _ _
  |exact LeO.none _
  |refine LeO.ite ?_ ?_
  |refine LeO.bind ?_ (fun _ => ?_)
theorem impl_PagesOk.mono : ∀ a0 a1 k, LeO (impl_PagesOk.f k a0 a1) (impl_PagesOk.f (k + 1) a0 a1) := by
 intro a0 a1 k
 obtain ⟨ih0, ih1⟩ := impl_PagesOk.mono_l k
 unfold impl_PagesOk.f
 repeat' first
  |(with_reducible exact ih0 _ _ _)
  |(with_reducible exact ih1 _ _ _ _ _)
  |(with_reducible exact LeO.refl _)
  |(with_reducible exact LeO.none _)
  |(with_reducible refine LeO.ite ?_ ?_)
  |(with_reducible refine LeO.bind ?_ (fun _ => ?_))
  |exact ih0 _ _ _
  |exact ih1 _ _ _ _ _
  |exact LeO.none _
  |refine LeO.ite ?_ ?_
  |refine LeO.bind ?_ (fun _ => ?_)
set_option maxHeartbeats 2000000 in
set_option maxRecDepth 100000 in
theorem impl_PagesOk.calls (k:Nat) (A0_0:Option Addr) (c0_0:Nat) (l0_0:List ByteArray) (A0_1:Option Addr) (c0_1:Nat) (l0_1:List Int) (r:Bool) (w:World) (hr0_0:Kd.C Kd.string w A0_0 l0_0.length l0_0) (hc0_0:l0_0.length≤c0_0) (hr0_1:Kd.C (Kd.int .i64) w A0_1 l0_1.length l0_1) (hc0_1:l0_1.length≤c0_1) (h:impl_PagesOk.f k l0_0 l0_1=some r) :
  Calls Try.prog 29 #[.agg #[.slice A0_0 l0_0.length c0_0,.slice A0_1 l0_1.length c0_1]] w fun e w'=>e=.returned (.bool r)∧Below w.heap.size w w':=by
 have hu26:=Try.underlying26
 have HR0_0:=Am hr0_0
 have HC0_0:=Am hc0_0
 clear hr0_0 hc0_0
 have HR0_1:=Am hr0_1
 have HC0_1:=Am hc0_1
 clear hr0_1 hc0_1
 have HB:=Am (bJ w.heap.size w)
 have H:(if (l0_0.length:Int)=(l0_1.length:Int) then ((impl_in.f (l0_0.length:Int) 1 12).bind fun t220=>(impl_PagesOk.j0 k (!t220) l0_0 l0_1)) else (impl_PagesOk.j0 k true l0_0 l0_1))=some r:=h
 clear h
 have HC2:=Am H
 clear H
 go_enter Try.func29,Try.ntmps29
 go_upto_region 1 with (first|((with_reducible refine gD (N:=1) rfl ?_);(try (refine gate_guard (by rfl) ?_;dsimp only));refine bI ?hg (N:=1) ?hd (cs:=#[.slice A0_0 l0_0.length c0_0,.slice A0_1 l0_1.length c0_1]) (t:=26) ?hr ?_;(case hd=>rfl);(case hg=>rfl);(case hr=>first|(go_simp;done)|(go_simp;rfl));intro Bb hg w3 hbox hb;have n0_:=Am (bP (by repeat (first|(with_reducible first|exact HB.out|apply oA|apply pN|apply o1)|exact HB.out)) hb);have n1_:=Am (hbox);have n2_:=Am ((by rw [hg];exact (bZ (by repeat (first|(with_reducible first|exact HB.out|apply oA|apply pN|apply o1)|exact HB.out))):w.heap.size≤Bb));have n3_:=Am ((by rw [hg];exact (bZ (by repeat (first|(with_reducible first|exact HB.out|apply oA|apply pN|apply o1)|exact HB.out))):w.heap.size≤Bb));clear HB;revert n0_ n1_ n2_ n3_;intro HB Ba BG Bc;clear hb hbox hg))
 (try simp only [Act.put,lA,lZ,lS])
 go_cut [19] (fun v19 wc=>∃ (kq:Nat) (x19_1:Bool),v19=.bool x19_1∧Aside0 (impl_PagesOk.j0 kq x19_1 l0_0 l0_1=some r)∧Aside0 (kq≤k)∧Aside0 (wc.heap[Bb]?=some (.cells #[(.slice A0_0 l0_0.length c0_0),(.slice A0_1 l0_1.length c0_1)] 26 (0,0)))∧Aside0 (Below w.heap.size w wc))
 case first =>
  have H:=HC2.out
  clear HC2
  by_cases c4:(l0_0.length:Int)=(l0_1.length:Int)
  rotate_left
  ·rw [if_neg c4] at H
   have c4b0:((l0_0.length:Int) == (l0_1.length:Int))=false:=beq_eq_false_iff_ne.mpr c4
   have c4b1:((l0_0.length:Int) != (l0_1.length:Int))=true:=bne_iff_ne.mpr c4
   have c4b2:(l0_0.length == l0_1.length)=false:=by first|simpa using c4|(simp at c4 ⊢;omega)
   (first|rw [c4b0]|(simp only [i64_w,i32_w];rw [c4b0])|skip)
   have H':=Am H
   clear H
   have Bh:=cz0 Ba.out
   have Bi:=cz1 Ba.out
   have Bj:=bF Ba.out 0
   have Bk:=bF Ba.out 1
   go_wp2
   go_meet
   case rel=>exact ⟨_,(true),(by first|rfl|(simp;done)|(simp [*];done)),H',⟨by first|omega|exact nR _⟩,⟨by (with_reducible repeat (first|refine bN ?_ _|refine bD ?_|refine bA ?_ _));exact Ba.out⟩,⟨by repeat (first|(with_reducible first|exact HB.out|apply oA|apply pN|apply o1|refine bS ?_ Bc.out)|exact HB.out)⟩⟩
  rw [if_pos c4] at H
  have c4b0:((l0_0.length:Int) == (l0_1.length:Int))=true:=beq_iff_eq.mpr c4
  have c4b1:((l0_0.length:Int) != (l0_1.length:Int))=false:=bne_eq_false_iff_eq.mpr c4
  have c4b2:(l0_0.length == l0_1.length)=true:=by first|simpa using c4|(simp at c4 ⊢;omega)
  clear c4
  (first|rw [c4b0]|(simp only [i64_w,i32_w];rw [c4b0])|skip)
  replace H:=oC H
  obtain ⟨t220,A50,H⟩:=H
  replace H:(impl_PagesOk.j0 k (!t220) l0_0 l0_1)=some r:=H
  have A5:=Am A50
  clear A50
  have H':=Am H
  clear H
  have Bd:=cz0 Ba.out
  have Be:=cz1 Ba.out
  have Bf:=bF Ba.out 0
  have Bg:=bF Ba.out 1
  go_wp2_with (first|(go_at_call 48;(with_reducible refine (impl_in.calls (l0_0.length:Int) 1 12 t220 _ A5.out).mono ?_);rintro e w' ⟨rfl,⟨nd,rfl⟩⟩))
  go_meet
  case rel=>exact ⟨_,(!t220),(by first|rfl|(simp;done)|(simp [*];done)),H',⟨by first|omega|exact nR _⟩,⟨by (with_reducible repeat (first|refine bN ?_ _|refine bD ?_|refine bA ?_ _));exact Ba.out⟩,⟨by repeat (first|(with_reducible first|exact HB.out|apply oA|apply pN|apply o1|refine bS ?_ Bc.out)|exact HB.out)⟩⟩
 case rest =>
  clear HC2
  try clear c2
  try clear p2
  try clear c4
  try clear c4b0
  try clear c4b1
  try clear c4b2
  try clear Bd
  try clear Be
  try clear Bh
  try clear Bi
  try clear Bf
  try clear Bg
  try clear Bj
  try clear Bk
  obtain ⟨kq,x19_1,rfl,HA,Bl,Ba,HB⟩:=hcut
  cases kq with
 |zero=>exact absurd HA.out (by simp [impl_PagesOk.j0])
 |succ kj1 =>
   have H:=HA.out
   clear HA
   simp only [impl_PagesOk.j0] at H
   by_cases c8:x19_1=true
   ·subst c8
    have H1:(some false)=some r:=by rw [if_pos rfl] at H;exact H
    clear H
    have H:=H1
    clear H1
    obtain rfl:=oJ H
    go_wp2
    go_ret
    exact ⟨by first|rfl|(simp [errW_none,errW_some] <;> rfl)|(simp [*,errW_none,errW_some] <;> rfl),by repeat (first|(with_reducible first|exact HB.out|apply oA|apply pN|apply o1|refine bS ?_ Bc.out)|exact HB.out)⟩
   replace c8:=Bool.eq_false_iff.mpr c8
   subst c8
   have H1:(impl_PagesOk.l0 kj1 l0_1 (l0_1.length:Int) 0 l0_0 l0_1)=some r:=by rw [if_neg (show ¬ (false=true) by decide)] at H;exact H
   clear H
   have H:=H1
   clear H1
   have H':=Am H
   clear H
   have Bm:=cz0 Ba.out
   have Bn:=cz1 Ba.out
   have Bo:=bF Ba.out 0
   have Bp:=bF Ba.out 1
   go_wp2
   go_loopg [23] kj1 (fun kq v23 w'=>∃ (x23_2:Int),v23=.int .i64 x23_2∧Aside0 (impl_PagesOk.l0 kq l0_1 (l0_1.length:Int) x23_2 l0_0 l0_1=some r)∧Aside0 (kq≤kj1)∧Aside0 (w'.heap[Bb]?=some (.cells #[(.slice A0_0 l0_0.length c0_0),(.slice A0_1 l0_1.length c0_1)] 26 (0,0)))∧Aside0 (Below w.heap.size w w'))
   case atStart=>exact ⟨(0),(by first|rfl|(simp;done)|(simp [*];done)),H',⟨nR _⟩,⟨by (with_reducible repeat (first|refine bN ?_ _|refine bD ?_|refine bA ?_ _));exact Ba.out⟩,⟨by repeat (first|(with_reducible first|exact HB.out|apply oA|apply pN|apply o1|refine bS ?_ Bc.out)|exact HB.out)⟩⟩
   case round =>
    clear H'
    try clear c2
    try clear p2
    try clear c4
    try clear c4b0
    try clear c4b1
    try clear c4b2
    try clear c8
    try clear Bd
    try clear Be
    try clear Bh
    try clear Bi
    try clear Bm
    try clear Bn
    try clear Bf
    try clear Bg
    try clear Bj
    try clear Bk
    try clear Bo
    try clear Bp
    try clear p2
    obtain ⟨x23_2,rfl,HA,HK2,Ba,HB⟩:=hrel
    cases gk with
   |zero=>exact absurd HA.out (by simp [impl_PagesOk.l0])
   |succ k2 =>
     have H:=HA.out
     clear HA
     simp only [impl_PagesOk.l0] at H
     by_cases c10:x23_2<(l0_1.length:Int)
     rotate_left
     ·rw [if_neg c10] at H
      have c10b0:decide (x23_2<(l0_1.length:Int))=false:=dF c10
      clear c10
      obtain rfl:=oJ H
      go_wp2
      go_ret
      exact ⟨by first|rfl|(simp [errW_none,errW_some] <;> rfl)|(simp [*,errW_none,errW_some] <;> rfl),by repeat (first|(with_reducible first|exact HB.out|apply oA|apply pN|apply o1|refine bS ?_ Bc.out)|exact HB.out)⟩

     rw [if_pos c10] at H
     have c10b0:decide (x23_2<(l0_1.length:Int))=true:=dT c10
     clear c10
     by_cases c11:0≤x23_2
     rotate_left
     ·rw [if_neg c11] at H
      exact absurd H (by simp)
     rw [if_pos c11] at H
     have c11b0:decide (0≤x23_2)=true:=dT c11
     clear c11
     by_cases c12:x23_2<(l0_1.length:Int)
     rotate_left
     ·rw [if_neg c12] at H
      exact absurd H (by simp)
     rw [if_pos c12] at H
     have c12b0:decide (x23_2<(l0_1.length:Int))=true:=dT c12
     clear c12
     by_cases c13:(rd l0_1 x23_2)=0
     rotate_left
     ·rw [if_neg c13] at H
      have c13b0:((rd l0_1 x23_2) == 0)=false:=beq_eq_false_iff_ne.mpr c13
      have c13b1:((rd l0_1 x23_2) != 0)=true:=bne_iff_ne.mpr c13
      replace H:=oC H
      obtain ⟨t224,A200,H⟩:=H
      replace H:(if t224=true then (if x23_2<(l0_0.length:Int) then (if ((rdOf ByteArray.empty l0_0 x23_2).size:Int)=4 then (impl_PagesOk.l0 k2 l0_1 (l0_1.length:Int) (wrap64 (x23_2 + 1)) l0_0 l0_1) else (some false)) else (none)) else (some false))=some r:=H
      have A20:=Am A200
      clear A200
      by_cases c21:t224=true
      rotate_left
      ·replace c21:=Bool.eq_false_iff.mpr c21
       subst c21
       have H1:(some false)=some r:=by rw [if_neg (show ¬ (false=true) by decide)] at H;exact H
       clear H
       have H:=H1
       clear H1
       obtain rfl:=oJ H
       have p221:0≤(x23_2:Int):=oE (by first|(with_reducible assumption)|assumption)
       have q221:x23_2<(l0_1.length:Int):=oE (by first|(with_reducible assumption)|assumption)
       obtain ⟨ad221,e221,hx221_0⟩:=Kd.at_int HR0_1.out x23_2 p221 q221
       cases e221
       replace hx221_0:=(bW HB hx221_0:)
       replace p221:=eq_true p221
       replace q221:=eq_true q221
       go_wp2_with (first|((with_reducible refine gC (f:=48) rfl ?_);refine goesL_ (some 31) rfl rfl Try.func48 (by kernel_rfl) rfl #[.int .i64 (rd l0_1 x23_2),.int .i64 0,.int .i64 99] rfl (by (try simp only [lM,lC,lN]);first|done|rfl|(simp only [lD,lT];rfl)) ?_;(with_reducible refine (impl_in.calls (rd l0_1 x23_2) 0 99 false _ A20.out).mono ?_);rintro e w' ⟨rfl,⟨nd,rfl⟩⟩;refine ⟨_,rfl,?_⟩))
       go_ret
       exact ⟨by first|rfl|(simp [errW_none,errW_some] <;> rfl)|(simp [*,errW_none,errW_some] <;> rfl),by repeat (first|(with_reducible first|exact HB.out|apply oA|apply pN|apply o1|refine bS ?_ Bc.out)|exact HB.out)⟩
      subst c21
      have H1:(if x23_2<(l0_0.length:Int) then (if ((rdOf ByteArray.empty l0_0 x23_2).size:Int)=4 then (impl_PagesOk.l0 k2 l0_1 (l0_1.length:Int) (wrap64 (x23_2 + 1)) l0_0 l0_1) else (some false)) else (none))=some r:=by rw [if_pos rfl] at H;exact H
      clear H
      have H:=H1
      clear H1
      by_cases c22:x23_2<(l0_0.length:Int)
      rotate_left
      ·rw [if_neg c22] at H
       exact absurd H (by simp)
      rw [if_pos c22] at H
      have c22b0:decide (x23_2<(l0_0.length:Int))=true:=dT c22
      clear c22
      by_cases c23:((rdOf ByteArray.empty l0_0 x23_2).size:Int)=4
      rotate_left
      ·rw [if_neg c23] at H
       have c23b0:(((rdOf ByteArray.empty l0_0 x23_2).size:Int) == 4)=false:=beq_eq_false_iff_ne.mpr c23
       have c23b1:(((rdOf ByteArray.empty l0_0 x23_2).size:Int) != 4)=true:=bne_iff_ne.mpr c23
       obtain rfl:=oJ H
       have p221:0≤(x23_2:Int):=oE (by first|(with_reducible assumption)|assumption)
       have q221:x23_2<(l0_1.length:Int):=oE (by first|(with_reducible assumption)|assumption)
       obtain ⟨ad221,e221,hx221_0⟩:=Kd.at_int HR0_1.out x23_2 p221 q221
       cases e221
       replace hx221_0:=(bW HB hx221_0:)
       replace p221:=eq_true p221
       replace q221:=eq_true q221
       go_wp2_with (first|((with_reducible refine gC (f:=48) rfl ?_);refine goesL_ (some 31) rfl rfl Try.func48 (by kernel_rfl) rfl #[.int .i64 (rd l0_1 x23_2),.int .i64 0,.int .i64 99] rfl (by (try simp only [lM,lC,lN]);first|done|rfl|(simp only [lD,lT];rfl)) ?_;(with_reducible refine (impl_in.calls (rd l0_1 x23_2) 0 99 true _ A20.out).mono ?_);rintro e w' ⟨rfl,⟨nd,rfl⟩⟩;refine ⟨_,rfl,?_⟩;have BC:=cz0 Ba.out;have BD:=cz1 Ba.out;have BE:=bF Ba.out 0;have BF:=bF Ba.out 1;have p225:0≤(x23_2:Int):=oE (by first|(with_reducible assumption)|assumption);have q225:x23_2<(l0_0.length:Int):=oE (by first|(with_reducible assumption)|assumption);obtain ⟨ad225,e225,hx225_0⟩:=Kd.at_string HR0_0.out x23_2 p225 q225;cases e225;replace hx225_0:=(HB.out.cell (World.block_lt_of_cell? w _ hx225_0)).trans hx225_0;replace p225:=eq_true p225;replace q225:=eq_true q225))
       go_ret
       exact ⟨by first|rfl|(simp [errW_none,errW_some] <;> rfl)|(simp [*,errW_none,errW_some] <;> rfl),by repeat (first|(with_reducible first|exact HB.out|apply oA|apply pN|apply o1|refine bS ?_ Bc.out)|exact HB.out)⟩
      rw [if_pos c23] at H
      have c23b0:(((rdOf ByteArray.empty l0_0 x23_2).size:Int) == 4)=true:=beq_iff_eq.mpr c23
      have c23b1:(((rdOf ByteArray.empty l0_0 x23_2).size:Int) != 4)=false:=bne_eq_false_iff_eq.mpr c23
      clear c23
      have H':=Am H
      clear H
      have p221:0≤(x23_2:Int):=oE (by first|(with_reducible assumption)|assumption)
      have q221:x23_2<(l0_1.length:Int):=oE (by first|(with_reducible assumption)|assumption)
      obtain ⟨ad221,e221,hx221_0⟩:=Kd.at_int HR0_1.out x23_2 p221 q221
      cases e221
      replace hx221_0:=(bW HB hx221_0:)
      replace p221:=eq_true p221
      replace q221:=eq_true q221
      go_wp2_with (first|((with_reducible refine gC (f:=48) rfl ?_);refine goesL_ (some 31) rfl rfl Try.func48 (by kernel_rfl) rfl #[.int .i64 (rd l0_1 x23_2),.int .i64 0,.int .i64 99] rfl (by (try simp only [lM,lC,lN]);first|done|rfl|(simp only [lD,lT];rfl)) ?_;(with_reducible refine (impl_in.calls (rd l0_1 x23_2) 0 99 true _ A20.out).mono ?_);rintro e w' ⟨rfl,⟨nd,rfl⟩⟩;refine ⟨_,rfl,?_⟩;have By:=cz0 Ba.out;have Bz:=cz1 Ba.out;have BA:=bF Ba.out 0;have BB:=bF Ba.out 1;have p225:0≤(x23_2:Int):=oE (by first|(with_reducible assumption)|assumption);have q225:x23_2<(l0_0.length:Int):=oE (by first|(with_reducible assumption)|assumption);obtain ⟨ad225,e225,hx225_0⟩:=Kd.at_string HR0_0.out x23_2 p225 q225;cases e225;replace hx225_0:=(HB.out.cell (World.block_lt_of_cell? w _ hx225_0)).trans hx225_0;replace p225:=eq_true p225;replace q225:=eq_true q225))
      go_roundg k2
      case measure=>have:=Bl.out;have:=HK2.out;omega
      case rel=>exact ⟨(wrap64 (x23_2 + 1)),(by first|rfl|(simp;done)|(simp [*];done)),H',⟨by have:=Bl.out;have:=HK2.out;omega⟩,⟨by (with_reducible repeat (first|refine bN ?_ _|refine bD ?_|refine bA ?_ _));exact Ba.out⟩,⟨by repeat (first|(with_reducible first|exact HB.out|apply oA|apply pN|apply o1|refine bS ?_ Bc.out)|exact HB.out)⟩⟩
     rw [if_pos c13] at H
     have c13b0:((rd l0_1 x23_2) == 0)=true:=beq_iff_eq.mpr c13
     have c13b1:((rd l0_1 x23_2) != 0)=false:=bne_eq_false_iff_eq.mpr c13
     clear c13
     replace H:=oC H
     obtain ⟨t222,A140,H⟩:=H
     replace H:(if t222=true then (if x23_2<(l0_0.length:Int) then (if ((rdOf ByteArray.empty l0_0 x23_2).size:Int)=0 then (impl_PagesOk.l0 k2 l0_1 (l0_1.length:Int) (wrap64 (x23_2 + 1)) l0_0 l0_1) else (some false)) else (none)) else (some false))=some r:=H
     have A14:=Am A140
     clear A140
     by_cases c15:t222=true
     rotate_left
     ·replace c15:=Bool.eq_false_iff.mpr c15
      subst c15
      have H1:(some false)=some r:=by rw [if_neg (show ¬ (false=true) by decide)] at H;exact H
      clear H
      have H:=H1
      clear H1
      obtain rfl:=oJ H
      have p221:0≤(x23_2:Int):=oE (by first|(with_reducible assumption)|assumption)
      have q221:x23_2<(l0_1.length:Int):=oE (by first|(with_reducible assumption)|assumption)
      obtain ⟨ad221,e221,hx221_0⟩:=Kd.at_int HR0_1.out x23_2 p221 q221
      cases e221
      replace hx221_0:=(bW HB hx221_0:)
      replace p221:=eq_true p221
      replace q221:=eq_true q221
      go_wp2_with (first|((with_reducible refine gC (f:=48) rfl ?_);refine goesL_ (some 31) rfl rfl Try.func48 (by kernel_rfl) rfl #[.int .i64 (rd l0_1 x23_2),.int .i64 0,.int .i64 99] rfl (by (try simp only [lM,lC,lN]);first|done|rfl|(simp only [lD,lT];rfl)) ?_;(with_reducible refine (impl_in.calls (rd l0_1 x23_2) 0 99 false _ A14.out).mono ?_);rintro e w' ⟨rfl,⟨nd,rfl⟩⟩;refine ⟨_,rfl,?_⟩))
      go_ret
      exact ⟨by first|rfl|(simp [errW_none,errW_some] <;> rfl)|(simp [*,errW_none,errW_some] <;> rfl),by repeat (first|(with_reducible first|exact HB.out|apply oA|apply pN|apply o1|refine bS ?_ Bc.out)|exact HB.out)⟩
     subst c15
     have H1:(if x23_2<(l0_0.length:Int) then (if ((rdOf ByteArray.empty l0_0 x23_2).size:Int)=0 then (impl_PagesOk.l0 k2 l0_1 (l0_1.length:Int) (wrap64 (x23_2 + 1)) l0_0 l0_1) else (some false)) else (none))=some r:=by rw [if_pos rfl] at H;exact H
     clear H
     have H:=H1
     clear H1
     by_cases c16:x23_2<(l0_0.length:Int)
     rotate_left
     ·rw [if_neg c16] at H
      exact absurd H (by simp)
     rw [if_pos c16] at H
     have c16b0:decide (x23_2<(l0_0.length:Int))=true:=dT c16
     clear c16
     by_cases c17:((rdOf ByteArray.empty l0_0 x23_2).size:Int)=0
     rotate_left
     ·rw [if_neg c17] at H
      have c17b0:(((rdOf ByteArray.empty l0_0 x23_2).size:Int) == 0)=false:=beq_eq_false_iff_ne.mpr c17
      have c17b1:(((rdOf ByteArray.empty l0_0 x23_2).size:Int) != 0)=true:=bne_iff_ne.mpr c17
      obtain rfl:=oJ H
      have p221:0≤(x23_2:Int):=oE (by first|(with_reducible assumption)|assumption)
      have q221:x23_2<(l0_1.length:Int):=oE (by first|(with_reducible assumption)|assumption)
      obtain ⟨ad221,e221,hx221_0⟩:=Kd.at_int HR0_1.out x23_2 p221 q221
      cases e221
      replace hx221_0:=(bW HB hx221_0:)
      replace p221:=eq_true p221
      replace q221:=eq_true q221
      go_wp2_with (first|((with_reducible refine gC (f:=48) rfl ?_);refine goesL_ (some 31) rfl rfl Try.func48 (by kernel_rfl) rfl #[.int .i64 (rd l0_1 x23_2),.int .i64 0,.int .i64 99] rfl (by (try simp only [lM,lC,lN]);first|done|rfl|(simp only [lD,lT];rfl)) ?_;(with_reducible refine (impl_in.calls (rd l0_1 x23_2) 0 99 true _ A14.out).mono ?_);rintro e w' ⟨rfl,⟨nd,rfl⟩⟩;refine ⟨_,rfl,?_⟩;have Bu:=cz0 Ba.out;have Bv:=cz1 Ba.out;have Bw:=bF Ba.out 0;have Bx:=bF Ba.out 1;have p223:0≤(x23_2:Int):=oE (by first|(with_reducible assumption)|assumption);have q223:x23_2<(l0_0.length:Int):=oE (by first|(with_reducible assumption)|assumption);obtain ⟨ad223,e223,hx223_0⟩:=Kd.at_string HR0_0.out x23_2 p223 q223;cases e223;replace hx223_0:=(HB.out.cell (World.block_lt_of_cell? w _ hx223_0)).trans hx223_0;replace p223:=eq_true p223;replace q223:=eq_true q223))
      go_ret
      exact ⟨by first|rfl|(simp [errW_none,errW_some] <;> rfl)|(simp [*,errW_none,errW_some] <;> rfl),by repeat (first|(with_reducible first|exact HB.out|apply oA|apply pN|apply o1|refine bS ?_ Bc.out)|exact HB.out)⟩
     rw [if_pos c17] at H
     have c17b0:(((rdOf ByteArray.empty l0_0 x23_2).size:Int) == 0)=true:=beq_iff_eq.mpr c17
     have c17b1:(((rdOf ByteArray.empty l0_0 x23_2).size:Int) != 0)=false:=bne_eq_false_iff_eq.mpr c17
     clear c17
     have H':=Am H
     clear H
     have p221:0≤(x23_2:Int):=oE (by first|(with_reducible assumption)|assumption)
     have q221:x23_2<(l0_1.length:Int):=oE (by first|(with_reducible assumption)|assumption)
     obtain ⟨ad221,e221,hx221_0⟩:=Kd.at_int HR0_1.out x23_2 p221 q221
     cases e221
     replace hx221_0:=(bW HB hx221_0:)
     replace p221:=eq_true p221
     replace q221:=eq_true q221
     go_wp2_with (first|((with_reducible refine gC (f:=48) rfl ?_);refine goesL_ (some 31) rfl rfl Try.func48 (by kernel_rfl) rfl #[.int .i64 (rd l0_1 x23_2),.int .i64 0,.int .i64 99] rfl (by (try simp only [lM,lC,lN]);first|done|rfl|(simp only [lD,lT];rfl)) ?_;(with_reducible refine (impl_in.calls (rd l0_1 x23_2) 0 99 true _ A14.out).mono ?_);rintro e w' ⟨rfl,⟨nd,rfl⟩⟩;refine ⟨_,rfl,?_⟩;have Bq:=cz0 Ba.out;have Br:=cz1 Ba.out;have Bs:=bF Ba.out 0;have Bt:=bF Ba.out 1;have p223:0≤(x23_2:Int):=oE (by first|(with_reducible assumption)|assumption);have q223:x23_2<(l0_0.length:Int):=oE (by first|(with_reducible assumption)|assumption);obtain ⟨ad223,e223,hx223_0⟩:=Kd.at_string HR0_0.out x23_2 p223 q223;cases e223;replace hx223_0:=(HB.out.cell (World.block_lt_of_cell? w _ hx223_0)).trans hx223_0;replace p223:=eq_true p223;replace q223:=eq_true q223))
     go_roundg k2
     case measure=>have:=Bl.out;have:=HK2.out;omega
     case rel=>exact ⟨(wrap64 (x23_2 + 1)),(by first|rfl|(simp;done)|(simp [*];done)),H',⟨by have:=Bl.out;have:=HK2.out;omega⟩,⟨by (with_reducible repeat (first|refine bN ?_ _|refine bD ?_|refine bA ?_ _));exact Ba.out⟩,⟨by repeat (first|(with_reducible first|exact HB.out|apply oA|apply pN|apply o1|refine bS ?_ Bc.out)|exact HB.out)⟩⟩
end Go.Proofs.Ytpdfkbggaihfpaa.PFnPagesSet
