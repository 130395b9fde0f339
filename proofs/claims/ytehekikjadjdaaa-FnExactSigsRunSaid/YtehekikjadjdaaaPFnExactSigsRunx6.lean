/- Proved here, without a condition beyond those that each theorem states: what the Go functions named below do is what the plain functions of the same names say. Written by xprint.py, a program of this session. -/
import Derived.Test.YtehekikjadjdaaaPFnExactSigsRunx0
import Derived.Test.YtehekikjadjdaaaPFnExactSigsRunx5
namespace Go.Proofs.Ytehekikjadjdaaa.PFnExactSigsRun
open Go.RowKit Go.Proofs.YtehekikjadjdaaaW.PrintWords Go.Proofs.YtehekikjadjdaaaW.PrintLast Go.Proofs.YtehekikjadjdaaaW.PrintMore
attribute [local go_sem] max2_int min2_int max_two min_two max_three min_three max_four min_four   -- for this text's walks alone
set_option linter.unusedVariables false
set_option linter.unusedSimpArgs false

attribute [local go_sem ↓] isSome_setCell_
/-! ### spec_SigsOk: function 56 -/
mutual
def spec_SigsOk.j0 : Nat → Bool → List Bool → List Bool → List Int → Option (Bool)
|0, _, _, _, _ => none
|k + 1, x20, x152000, x152001, x152002 => if x20 = true then (some false) else (spec_SigsOk.l0 k 0 x152000 x152001 x152002)
def spec_SigsOk.l0 : Nat → Int → List Bool → List Bool → List Int → Option (Bool)
|0, _, _, _, _ => none
|k + 1, x3, x152000, x152001, x152002 => if x3 < 8 then (if 0 ≤ x3 then (if x3 < (x152002.length : Int) then (if (rd x152002 x3) = 0 then ((spec_l10Fixed.f (wrap64 (x3 + 1))).bind fun t153 => (if t153 = true then (if x3 < (x152001.length : Int) then (if rdOf false x152001 x3 = true then (some false) else (spec_SigsOk.l0 k (wrap64 (x3 + 1)) x152000 x152001 x152002)) else (none)) else (spec_SigsOk.l0 k (wrap64 (x3 + 1)) x152000 x152001 x152002))) else (if (rd x152002 x3) = 1 then ((spec_l10Fixed.f (wrap64 (x3 + 1))).bind fun t155 => (if t155 = true then (if x3 < (x152001.length : Int) then (if rdOf false x152001 x3 = true then (some false) else (some false)) else (none)) else (spec_SigsOk.l0 k (wrap64 (x3 + 1)) x152000 x152001 x152002))) else (if (rd x152002 x3) = 4 then ((spec_l10Fixed.f (wrap64 (x3 + 1))).bind fun t157 => (if t157 = true then (if x3 < (x152001.length : Int) then (if rdOf false x152001 x3 = true then (some false) else (some false)) else (none)) else (spec_SigsOk.l0 k (wrap64 (x3 + 1)) x152000 x152001 x152002))) else (some false)))) else (none)) else (none)) else (some true)
end
def spec_SigsOk.f (k : Nat) (l0_0 : List Bool) (l0_1 : List Bool) (l0_2 : List Int) : Option (Bool) := if (l0_0.length : Int) = 8 then (if (l0_1.length : Int) = 8 then (spec_SigsOk.j0 k ((l0_2.length : Int) != 8) l0_0 l0_1 l0_2) else (spec_SigsOk.j0 k true l0_0 l0_1 l0_2)) else (spec_SigsOk.j0 k true l0_0 l0_1 l0_2)
theorem spec_SigsOk.mono_l : ∀ k, (∀ y0 y1 y2 y3, LeO (spec_SigsOk.j0 k y0 y1 y2 y3) (spec_SigsOk.j0 (k + 1) y0 y1 y2 y3)) ∧ (∀ y0 y1 y2 y3, LeO (spec_SigsOk.l0 k y0 y1 y2 y3) (spec_SigsOk.l0 (k + 1) y0 y1 y2 y3))
|0 => ⟨fun _ _ _ _ r h => by simp [spec_SigsOk.j0] at h, fun _ _ _ _ r h => by simp [spec_SigsOk.l0] at h⟩
|k + 1 => by
  obtain ⟨ih0, ih1⟩ := spec_SigsOk.mono_l k
  refine ⟨?_, ?_⟩
  ·intro y0 y1 y2 y3
   unfold spec_SigsOk.j0
   repeat' first
  |(with_reducible exact ih0 _ _ _ _)
  |(with_reducible exact ih1 _ _ _ _)
  |(with_reducible exact LeO.refl _)
  |(with_reducible exact LeO.none _)
  |(with_reducible refine LeO.ite ?_ ?_)
  |(with_reducible refine LeO.bind ?_ (fun _ => ?_))
  |exact ih0 _ _ _ _
  |exact ih1 _ _ _ _
  |exact LeO.none _
  |refine LeO.ite ?_ ?_
  |refine LeO.bind ?_ (fun _ => ?_)
  ·intro y0 y1 y2 y3
   unfold spec_SigsOk.l0
   repeat' first
  |(with_reducible exact ih0 _ _ _ _)
  |(with_reducible exact ih1 _ _ _ _)
  |(with_reducible exact LeO.refl _)
  |(with_reducible exact LeO.none _)
  |(with_reducible refine LeO.ite ?_ ?_)
  |(with_reducible refine LeO.bind ?_ (fun _ => ?_))
  |exact ih0 _ _ _ _
  |exact ih1 _ _ _ _
  |exact LeO.none _
  |refine LeO.ite ?_ ?_
  |refine LeO.bind ?_ (fun _ => ?_)
theorem spec_SigsOk.mono : ∀ a0 a1 a2 k, LeO (spec_SigsOk.f k a0 a1 a2) (spec_SigsOk.f (k + 1) a0 a1 a2) := by
 intro a0 a1 a2 k
 obtain ⟨ih0, ih1⟩ := spec_SigsOk.mono_l k
 unfold spec_SigsOk.f
 repeat' first
  |(with_reducible exact ih0 _ _ _ _)
  |(with_reducible exact ih1 _ _ _ _)
  |(with_reducible exact LeO.refl _)
  |(with_reducible exact LeO.none _)
  |(with_reducible refine LeO.ite ?_ ?_)
  |(with_reducible refine LeO.bind ?_ (fun _ => ?_))
  |exact ih0 _ _ _ _
  |exact ih1 _ _ _ _
  |exact LeO.none _
  |refine LeO.ite ?_ ?_
  |refine LeO.bind ?_ (fun _ => ?_)
set_option maxHeartbeats 2000000 in
set_option maxRecDepth 100000 in
theorem spec_SigsOk.calls (k:Nat) (A0_0:Option Addr) (c0_0:Nat) (l0_0:List Bool) (A0_1:Option Addr) (c0_1:Nat) (l0_1:List Bool) (A0_2:Option Addr) (c0_2:Nat) (l0_2:List Int) (r:Bool) (w:World) (hr0_0:Kd.C Kd.bool w A0_0 l0_0.length l0_0) (hc0_0:l0_0.length≤c0_0) (hr0_1:Kd.C Kd.bool w A0_1 l0_1.length l0_1) (hc0_1:l0_1.length≤c0_1) (hr0_2:Kd.C (Kd.int .i64) w A0_2 l0_2.length l0_2) (hc0_2:l0_2.length≤c0_2) (h:spec_SigsOk.f k l0_0 l0_1 l0_2=some r) :
  Calls Try.prog 56 #[.agg #[.slice A0_0 l0_0.length c0_0,.slice A0_1 l0_1.length c0_1,.slice A0_2 l0_2.length c0_2]] w fun e w'=>e=.returned (.bool r)∧Below w.heap.size w w':=by
 have hu27:=Try.underlying27
 have HR0_0:=Am hr0_0
 have HC0_0:=Am hc0_0
 clear hr0_0 hc0_0
 have HR0_1:=Am hr0_1
 have HC0_1:=Am hc0_1
 clear hr0_1 hc0_1
 have HR0_2:=Am hr0_2
 have HC0_2:=Am hc0_2
 clear hr0_2 hc0_2
 have HB:=Am (bJ w.heap.size w)
 have H:(if (l0_0.length:Int)=8 then (if (l0_1.length:Int)=8 then (spec_SigsOk.j0 k ((l0_2.length:Int) != 8) l0_0 l0_1 l0_2) else (spec_SigsOk.j0 k true l0_0 l0_1 l0_2)) else (spec_SigsOk.j0 k true l0_0 l0_1 l0_2))=some r:=h
 clear h
 have HC2:=Am H
 clear H
 go_enter Try.func56,Try.ntmps56
 go_upto_region 1 with (first|((with_reducible refine gD (N:=1) rfl ?_);(try (refine gate_guard (by rfl) ?_;dsimp only));refine bI ?hg (N:=1) ?hd (cs:=#[.slice A0_0 l0_0.length c0_0,.slice A0_1 l0_1.length c0_1,.slice A0_2 l0_2.length c0_2]) (t:=27) ?hr ?_;(case hd=>rfl);(case hg=>rfl);(case hr=>first|(go_simp;done)|(go_simp;rfl));intro Bb hg w3 hbox hb;have n0_:=Am (bP (by repeat (first|(with_reducible first|exact HB.out|apply oA|apply pN|apply o1)|exact HB.out)) hb);have n1_:=Am (hbox);have n2_:=Am ((by rw [hg];exact (bZ (by repeat (first|(with_reducible first|exact HB.out|apply oA|apply pN|apply o1)|exact HB.out))):w.heap.size≤Bb));have n3_:=Am ((by rw [hg];exact (bZ (by repeat (first|(with_reducible first|exact HB.out|apply oA|apply pN|apply o1)|exact HB.out))):w.heap.size≤Bb));clear HB;revert n0_ n1_ n2_ n3_;intro HB Ba Du Bc;clear hb hbox hg))
 (try simp only [Act.put,lA,lZ,lS])
 go_cut [20] (fun v20 wc=>∃ (kq:Nat) (x20_1:Bool),v20=.bool x20_1∧Aside0 (spec_SigsOk.j0 kq x20_1 l0_0 l0_1 l0_2=some r)∧Aside0 (kq≤k)∧Aside0 (wc.heap[Bb]?=some (.cells #[(.slice A0_0 l0_0.length c0_0),(.slice A0_1 l0_1.length c0_1),(.slice A0_2 l0_2.length c0_2)] 27 (0,0)))∧Aside0 (Below w.heap.size w wc))
 case first =>
  have H:=HC2.out
  clear HC2
  by_cases c4:(l0_0.length:Int)=8
  rotate_left
  ·rw [if_neg c4] at H
   have c4b0:((l0_0.length:Int) == 8)=false:=beq_eq_false_iff_ne.mpr c4
   have c4b1:((l0_0.length:Int) != 8)=true:=bne_iff_ne.mpr c4
   (first|rw [c4b0]|(simp only [i64_w,i32_w];rw [c4b0])|skip)
   have H':=Am H
   clear H
   have Bq:=cz0 Ba.out
   have Br:=cz1 Ba.out
   have Bs:=cz2 Ba.out
   have Bt:=bF Ba.out 0
   have Bu:=bF Ba.out 1
   have Bv:=bF Ba.out 2
   go_wp2
   go_meet
   case rel=>exact ⟨_,(true),(by first|rfl|(simp;done)|(simp [*];done)),H',⟨by first|omega|exact nR _⟩,⟨by (with_reducible repeat (first|refine bN ?_ _|refine bD ?_|refine bA ?_ _));exact Ba.out⟩,⟨by repeat (first|(with_reducible first|exact HB.out|apply oA|apply pN|apply o1|refine bS ?_ Bc.out)|exact HB.out)⟩⟩
  rw [if_pos c4] at H
  have c4b0:((l0_0.length:Int) == 8)=true:=beq_iff_eq.mpr c4
  have c4b1:((l0_0.length:Int) != 8)=false:=bne_eq_false_iff_eq.mpr c4
  clear c4
  (first|rw [c4b0]|(simp only [i64_w,i32_w];rw [c4b0])|skip)
  by_cases c5:(l0_1.length:Int)=8
  rotate_left
  ·rw [if_neg c5] at H
   have c5b0:((l0_1.length:Int) == 8)=false:=beq_eq_false_iff_ne.mpr c5
   have c5b1:((l0_1.length:Int) != 8)=true:=bne_iff_ne.mpr c5
   have H':=Am H
   clear H
   have Bk:=cz0 Ba.out
   have Bl:=cz1 Ba.out
   have Bm:=cz2 Ba.out
   have Bn:=bF Ba.out 0
   have Bo:=bF Ba.out 1
   have Bp:=bF Ba.out 2
   go_wp2
   go_meet
   case rel=>exact ⟨_,(true),(by first|rfl|(simp;done)|(simp [*];done)),H',⟨by first|omega|exact nR _⟩,⟨by (with_reducible repeat (first|refine bN ?_ _|refine bD ?_|refine bA ?_ _));exact Ba.out⟩,⟨by repeat (first|(with_reducible first|exact HB.out|apply oA|apply pN|apply o1|refine bS ?_ Bc.out)|exact HB.out)⟩⟩
  rw [if_pos c5] at H
  have c5b0:((l0_1.length:Int) == 8)=true:=beq_iff_eq.mpr c5
  have c5b1:((l0_1.length:Int) != 8)=false:=bne_eq_false_iff_eq.mpr c5
  clear c5
  have H':=Am H
  clear H
  have Be:=cz0 Ba.out
  have Bf:=cz1 Ba.out
  have Bg:=cz2 Ba.out
  have Bh:=bF Ba.out 0
  have Bi:=bF Ba.out 1
  have Bj:=bF Ba.out 2
  go_wp2
  go_meet
  case rel=>exact ⟨_,(((l0_2.length:Int) != 8)),(by first|rfl|(simp;done)|(simp [*];done)),H',⟨by first|omega|exact nR _⟩,⟨by (with_reducible repeat (first|refine bN ?_ _|refine bD ?_|refine bA ?_ _));exact Ba.out⟩,⟨by repeat (first|(with_reducible first|exact HB.out|apply oA|apply pN|apply o1|refine bS ?_ Bc.out)|exact HB.out)⟩⟩
 case rest =>
  clear HC2
  try clear p2
  try clear c4
  try clear c4b0
  try clear c4b1
  try clear c5
  try clear c5b0
  try clear c5b1
  try clear Be
  try clear Bf
  try clear Bg
  try clear Bk
  try clear Bl
  try clear Bm
  try clear Bq
  try clear Br
  try clear Bs
  try clear Bh
  try clear Bi
  try clear Bj
  try clear Bn
  try clear Bo
  try clear Bp
  try clear Bt
  try clear Bu
  try clear Bv
  obtain ⟨kq,x20_1,rfl,HA,Bd,Ba,HB⟩:=hcut
  cases kq with
 |zero=>exact absurd HA.out (by simp [spec_SigsOk.j0])
 |succ kj1 =>
   have H:=HA.out
   clear HA
   simp only [spec_SigsOk.j0] at H
   by_cases c9:x20_1=true
   ·subst c9
    have H1:(some false)=some r:=by rw [if_pos rfl] at H;exact H
    clear H
    have H:=H1
    clear H1
    obtain rfl:=oJ H
    go_wp2
    go_ret
    exact ⟨by first|rfl|(simp [errW_none,errW_some] <;> rfl)|(simp [*,errW_none,errW_some] <;> rfl),by repeat (first|(with_reducible first|exact HB.out|apply oA|apply pN|apply o1|refine bS ?_ Bc.out)|exact HB.out)⟩
   replace c9:=Bool.eq_false_iff.mpr c9
   subst c9
   have H1:(spec_SigsOk.l0 kj1 0 l0_0 l0_1 l0_2)=some r:=by rw [if_neg (show ¬ (false=true) by decide)] at H;exact H
   clear H
   have H:=H1
   clear H1
   have H':=Am H
   clear H
   go_wp2
   go_loopg [3] kj1 (fun kq v3 w'=>∃ (x3_2:Int),v3=.int .i64 x3_2∧Aside0 (spec_SigsOk.l0 kq x3_2 l0_0 l0_1 l0_2=some r)∧Aside0 (kq≤kj1)∧Aside0 (w'.heap[Bb]?=some (.cells #[(.slice A0_0 l0_0.length c0_0),(.slice A0_1 l0_1.length c0_1),(.slice A0_2 l0_2.length c0_2)] 27 (0,0)))∧Aside0 (Below w.heap.size w w'))
   case atStart=>exact ⟨(0),(by first|rfl|(simp;done)|(simp [*];done)),H',⟨nR _⟩,⟨by (with_reducible repeat (first|refine bN ?_ _|refine bD ?_|refine bA ?_ _));exact Ba.out⟩,⟨by repeat (first|(with_reducible first|exact HB.out|apply oA|apply pN|apply o1|refine bS ?_ Bc.out)|exact HB.out)⟩⟩
   case round =>
    clear H'
    try clear p2
    try clear c4
    try clear c4b0
    try clear c4b1
    try clear c5
    try clear c5b0
    try clear c5b1
    try clear c9
    try clear Be
    try clear Bf
    try clear Bg
    try clear Bk
    try clear Bl
    try clear Bm
    try clear Bq
    try clear Br
    try clear Bs
    try clear Bh
    try clear Bi
    try clear Bj
    try clear Bn
    try clear Bo
    try clear Bp
    try clear Bt
    try clear Bu
    try clear Bv
    try clear p2
    obtain ⟨x3_2,rfl,HA,HK2,Ba,HB⟩:=hrel
    cases gk with
   |zero=>exact absurd HA.out (by simp [spec_SigsOk.l0])
   |succ k2 =>
     have H:=HA.out
     clear HA
     simp only [spec_SigsOk.l0] at H
     by_cases c10:x3_2<8
     rotate_left
     ·rw [if_neg c10] at H
      have c10b0:decide (x3_2<8)=false:=dF c10
      clear c10
      obtain rfl:=oJ H
      go_wp2
      go_ret
      exact ⟨by first|rfl|(simp [errW_none,errW_some] <;> rfl)|(simp [*,errW_none,errW_some] <;> rfl),by repeat (first|(with_reducible first|exact HB.out|apply oA|apply pN|apply o1|refine bS ?_ Bc.out)|exact HB.out)⟩

     rw [if_pos c10] at H
     have c10b0:decide (x3_2<8)=true:=dT c10
     clear c10
     by_cases c11:0≤x3_2
     rotate_left
     ·rw [if_neg c11] at H
      exact absurd H (by simp)
     rw [if_pos c11] at H
     have c11b0:decide (0≤x3_2)=true:=dT c11
     clear c11
     by_cases c12:x3_2<(l0_2.length:Int)
     rotate_left
     ·rw [if_neg c12] at H
      exact absurd H (by simp)
     rw [if_pos c12] at H
     have c12b0:decide (x3_2<(l0_2.length:Int))=true:=dT c12
     clear c12
     by_cases c13:(rd l0_2 x3_2)=0
     ·rw [if_pos c13] at H
      have c13b0:((rd l0_2 x3_2) == 0)=true:=beq_iff_eq.mpr c13
      have c13b1:((rd l0_2 x3_2) != 0)=false:=bne_eq_false_iff_eq.mpr c13
      clear c13
      replace H:=oC H
      obtain ⟨t153,A140,H⟩:=H
      replace H:(if t153=true then (if x3_2<(l0_1.length:Int) then (if rdOf false l0_1 x3_2=true then (some false) else (spec_SigsOk.l0 k2 (wrap64 (x3_2 + 1)) l0_0 l0_1 l0_2)) else (none)) else (spec_SigsOk.l0 k2 (wrap64 (x3_2 + 1)) l0_0 l0_1 l0_2))=some r:=H
      have A14:=Am A140
      clear A140
      by_cases c15:t153=true
      rotate_left
      ·replace c15:=Bool.eq_false_iff.mpr c15
       subst c15
       have H1:(spec_SigsOk.l0 k2 (wrap64 (x3_2 + 1)) l0_0 l0_1 l0_2)=some r:=by rw [if_neg (show ¬ (false=true) by decide)] at H;exact H
       clear H
       have H:=H1
       clear H1
       have H':=Am H
       clear H
       have BI:=cz0 Ba.out
       have BJ:=cz1 Ba.out
       have BK:=cz2 Ba.out
       have BL:=bF Ba.out 0
       have BM:=bF Ba.out 1
       have BN:=bF Ba.out 2
       have p152:0≤(x3_2:Int):=oE (by first|(with_reducible assumption)|assumption)
       have q152:x3_2<(l0_2.length:Int):=oE (by first|(with_reducible assumption)|assumption)
       obtain ⟨ad152,e152,hx152_0⟩:=Kd.at_int HR0_2.out x3_2 p152 q152
       cases e152
       replace hx152_0:=(bW HB hx152_0:)
       replace p152:=eq_true p152
       replace q152:=eq_true q152
       go_wp2_with (first|(go_at_call 65;(with_reducible refine (spec_l10Fixed.calls (wrap64 (x3_2 + 1)) false _ A14.out).mono ?_);rintro e w' ⟨rfl,⟨nd,rfl⟩⟩))
       go_roundg k2
       case measure=>have:=Bd.out;have:=HK2.out;omega
       case rel=>exact ⟨(wrap64 (x3_2 + 1)),(by first|rfl|(simp;done)|(simp [*];done)),H',⟨by have:=Bd.out;have:=HK2.out;omega⟩,⟨by (with_reducible repeat (first|refine bN ?_ _|refine bD ?_|refine bA ?_ _));exact Ba.out⟩,⟨by repeat (first|(with_reducible first|exact HB.out|apply oA|apply pN|apply o1|refine bS ?_ Bc.out)|exact HB.out)⟩⟩
      subst c15
      have H1:(if x3_2<(l0_1.length:Int) then (if rdOf false l0_1 x3_2=true then (some false) else (spec_SigsOk.l0 k2 (wrap64 (x3_2 + 1)) l0_0 l0_1 l0_2)) else (none))=some r:=by rw [if_pos rfl] at H;exact H
      clear H
      have H:=H1
      clear H1
      by_cases c16:x3_2<(l0_1.length:Int)
      rotate_left
      ·rw [if_neg c16] at H
       exact absurd H (by simp)
      rw [if_pos c16] at H
      have c16b0:decide (x3_2<(l0_1.length:Int))=true:=dT c16
      clear c16
      obtain ⟨bq17,hbq17⟩:∃ b_:Bool,b_=(rdOf false l0_1 x3_2):=⟨_,rfl⟩
      replace H:(if bq17=true then (some false) else (spec_SigsOk.l0 k2 (wrap64 (x3_2 + 1)) l0_0 l0_1 l0_2))=some r:=by rw [← hbq17] at H;exact H
      have Nbq17:=Am hbq17
      clear hbq17
      by_cases c18:bq17=true
      ·subst c18
       have H1:(some false)=some r:=by rw [if_pos rfl] at H;exact H
       clear H
       have H:=H1
       clear H1
       obtain rfl:=oJ H
       have Bw:=cz0 Ba.out
       have Bx:=cz1 Ba.out
       have By:=cz2 Ba.out
       have Bz:=bF Ba.out 0
       have BA:=bF Ba.out 1
       have BB:=bF Ba.out 2
       have p152:0≤(x3_2:Int):=oE (by first|(with_reducible assumption)|assumption)
       have q152:x3_2<(l0_2.length:Int):=oE (by first|(with_reducible assumption)|assumption)
       obtain ⟨ad152,e152,hx152_0⟩:=Kd.at_int HR0_2.out x3_2 p152 q152
       cases e152
       replace hx152_0:=(bW HB hx152_0:)
       replace p152:=eq_true p152
       replace q152:=eq_true q152
       go_wp2_with (first|(go_at_call 65;(with_reducible refine (spec_l10Fixed.calls (wrap64 (x3_2 + 1)) true _ A14.out).mono ?_);rintro e w' ⟨rfl,⟨nd,rfl⟩⟩;have p154:0≤(x3_2:Int):=oE (by first|(with_reducible assumption)|assumption);have q154:x3_2<(l0_1.length:Int):=oE (by first|(with_reducible assumption)|assumption);obtain ⟨ad154,e154,hx154_0⟩:=Kd.at_bool HR0_1.out x3_2 p154 q154;(try rw [← Nbq17.out] at hx154_0);cases e154;replace hx154_0:=(HB.out.cell (World.block_lt_of_cell? w _ hx154_0)).trans hx154_0;replace p154:=eq_true p154;replace q154:=eq_true q154))
       go_ret
       exact ⟨by first|rfl|(simp [errW_none,errW_some] <;> rfl)|(simp [*,errW_none,errW_some] <;> rfl),by repeat (first|(with_reducible first|exact HB.out|apply oA|apply pN|apply o1|refine bS ?_ Bc.out)|exact HB.out)⟩
      replace c18:=Bool.eq_false_iff.mpr c18
      subst c18
      have H1:(spec_SigsOk.l0 k2 (wrap64 (x3_2 + 1)) l0_0 l0_1 l0_2)=some r:=by rw [if_neg (show ¬ (false=true) by decide)] at H;exact H
      clear H
      have H:=H1
      clear H1
      have H':=Am H
      clear H
      have BC:=cz0 Ba.out
      have BD:=cz1 Ba.out
      have BE:=cz2 Ba.out
      have BF:=bF Ba.out 0
      have BG:=bF Ba.out 1
      have BH:=bF Ba.out 2
      have p152:0≤(x3_2:Int):=oE (by first|(with_reducible assumption)|assumption)
      have q152:x3_2<(l0_2.length:Int):=oE (by first|(with_reducible assumption)|assumption)
      obtain ⟨ad152,e152,hx152_0⟩:=Kd.at_int HR0_2.out x3_2 p152 q152
      cases e152
      replace hx152_0:=(bW HB hx152_0:)
      replace p152:=eq_true p152
      replace q152:=eq_true q152
      go_wp2_with (first|(go_at_call 65;(with_reducible refine (spec_l10Fixed.calls (wrap64 (x3_2 + 1)) true _ A14.out).mono ?_);rintro e w' ⟨rfl,⟨nd,rfl⟩⟩;have p154:0≤(x3_2:Int):=oE (by first|(with_reducible assumption)|assumption);have q154:x3_2<(l0_1.length:Int):=oE (by first|(with_reducible assumption)|assumption);obtain ⟨ad154,e154,hx154_0⟩:=Kd.at_bool HR0_1.out x3_2 p154 q154;(try rw [← Nbq17.out] at hx154_0);cases e154;replace hx154_0:=(HB.out.cell (World.block_lt_of_cell? w _ hx154_0)).trans hx154_0;replace p154:=eq_true p154;replace q154:=eq_true q154))
      go_roundg k2
      case measure=>have:=Bd.out;have:=HK2.out;omega
      case rel=>(try rw [← Nbq17.out]);exact ⟨(wrap64 (x3_2 + 1)),(by first|rfl|(simp;done)|(simp [*];done)),H',⟨by have:=Bd.out;have:=HK2.out;omega⟩,⟨by (with_reducible repeat (first|refine bN ?_ _|refine bD ?_|refine bA ?_ _));exact Ba.out⟩,⟨by repeat (first|(with_reducible first|exact HB.out|apply oA|apply pN|apply o1|refine bS ?_ Bc.out)|exact HB.out)⟩⟩
     rw [if_neg c13] at H
     have c13b0:((rd l0_2 x3_2) == 0)=false:=beq_eq_false_iff_ne.mpr c13
     have c13b1:((rd l0_2 x3_2) != 0)=true:=bne_iff_ne.mpr c13
     by_cases c22:(rd l0_2 x3_2)=1
     ·rw [if_pos c22] at H
      have c22b0:((rd l0_2 x3_2) == 1)=true:=beq_iff_eq.mpr c22
      have c22b1:((rd l0_2 x3_2) != 1)=false:=bne_eq_false_iff_eq.mpr c22
      clear c22
      replace H:=oC H
      obtain ⟨t155,A230,H⟩:=H
      replace H:(if t155=true then (if x3_2<(l0_1.length:Int) then (if rdOf false l0_1 x3_2=true then (some false) else (some false)) else (none)) else (spec_SigsOk.l0 k2 (wrap64 (x3_2 + 1)) l0_0 l0_1 l0_2))=some r:=H
      have A23:=Am A230
      clear A230
      by_cases c24:t155=true
      rotate_left
      ·replace c24:=Bool.eq_false_iff.mpr c24
       subst c24
       have H1:(spec_SigsOk.l0 k2 (wrap64 (x3_2 + 1)) l0_0 l0_1 l0_2)=some r:=by rw [if_neg (show ¬ (false=true) by decide)] at H;exact H
       clear H
       have H:=H1
       clear H1
       have H':=Am H
       clear H
       have B0:=cz0 Ba.out
       have B1:=cz1 Ba.out
       have B2:=cz2 Ba.out
       have B3:=bF Ba.out 0
       have B4:=bF Ba.out 1
       have B5:=bF Ba.out 2
       have p152:0≤(x3_2:Int):=oE (by first|(with_reducible assumption)|assumption)
       have q152:x3_2<(l0_2.length:Int):=oE (by first|(with_reducible assumption)|assumption)
       obtain ⟨ad152,e152,hx152_0⟩:=Kd.at_int HR0_2.out x3_2 p152 q152
       cases e152
       replace hx152_0:=(bW HB hx152_0:)
       replace p152:=eq_true p152
       replace q152:=eq_true q152
       go_wp2_with (first|(go_at_call 65;(with_reducible refine (spec_l10Fixed.calls (wrap64 (x3_2 + 1)) false _ A23.out).mono ?_);rintro e w' ⟨rfl,⟨nd,rfl⟩⟩))
       go_roundg k2
       case measure=>have:=Bd.out;have:=HK2.out;omega
       case rel=>exact ⟨(wrap64 (x3_2 + 1)),(by first|rfl|(simp;done)|(simp [*];done)),H',⟨by have:=Bd.out;have:=HK2.out;omega⟩,⟨by (with_reducible repeat (first|refine bN ?_ _|refine bD ?_|refine bA ?_ _));exact Ba.out⟩,⟨by repeat (first|(with_reducible first|exact HB.out|apply oA|apply pN|apply o1|refine bS ?_ Bc.out)|exact HB.out)⟩⟩
      subst c24
      have H1:(if x3_2<(l0_1.length:Int) then (if rdOf false l0_1 x3_2=true then (some false) else (some false)) else (none))=some r:=by rw [if_pos rfl] at H;exact H
      clear H
      have H:=H1
      clear H1
      by_cases c25:x3_2<(l0_1.length:Int)
      rotate_left
      ·rw [if_neg c25] at H
       exact absurd H (by simp)
      rw [if_pos c25] at H
      have c25b0:decide (x3_2<(l0_1.length:Int))=true:=dT c25
      clear c25
      obtain ⟨bq26,hbq26⟩:∃ b_:Bool,b_=(rdOf false l0_1 x3_2):=⟨_,rfl⟩
      replace H:(if bq26=true then (some false) else (some false))=some r:=by rw [← hbq26] at H;exact H
      have Nbq26:=Am hbq26
      clear hbq26
      by_cases c27:bq26=true
      ·subst c27
       have H1:(some false)=some r:=by rw [if_pos rfl] at H;exact H
       clear H
       have H:=H1
       clear H1
       obtain rfl:=oJ H
       have BO:=cz0 Ba.out
       have BP:=cz1 Ba.out
       have BQ:=cz2 Ba.out
       have BR:=bF Ba.out 0
       have BS:=bF Ba.out 1
       have BT:=bF Ba.out 2
       have p152:0≤(x3_2:Int):=oE (by first|(with_reducible assumption)|assumption)
       have q152:x3_2<(l0_2.length:Int):=oE (by first|(with_reducible assumption)|assumption)
       obtain ⟨ad152,e152,hx152_0⟩:=Kd.at_int HR0_2.out x3_2 p152 q152
       cases e152
       replace hx152_0:=(bW HB hx152_0:)
       replace p152:=eq_true p152
       replace q152:=eq_true q152
       go_wp2_with (first|(go_at_call 65;(with_reducible refine (spec_l10Fixed.calls (wrap64 (x3_2 + 1)) true _ A23.out).mono ?_);rintro e w' ⟨rfl,⟨nd,rfl⟩⟩;have p156:0≤(x3_2:Int):=oE (by first|(with_reducible assumption)|assumption);have q156:x3_2<(l0_1.length:Int):=oE (by first|(with_reducible assumption)|assumption);obtain ⟨ad156,e156,hx156_0⟩:=Kd.at_bool HR0_1.out x3_2 p156 q156;(try rw [← Nbq26.out] at hx156_0);cases e156;replace hx156_0:=(HB.out.cell (World.block_lt_of_cell? w _ hx156_0)).trans hx156_0;replace p156:=eq_true p156;replace q156:=eq_true q156))
       go_ret
       exact ⟨by first|rfl|(simp [errW_none,errW_some] <;> rfl)|(simp [*,errW_none,errW_some] <;> rfl),by repeat (first|(with_reducible first|exact HB.out|apply oA|apply pN|apply o1|refine bS ?_ Bc.out)|exact HB.out)⟩
      replace c27:=Bool.eq_false_iff.mpr c27
      subst c27
      have H1:(some false)=some r:=by rw [if_neg (show ¬ (false=true) by decide)] at H;exact H
      clear H
      have H:=H1
      clear H1
      obtain rfl:=oJ H
      have BU:=cz0 Ba.out
      have BV:=cz1 Ba.out
      have BW:=cz2 Ba.out
      have BX:=bF Ba.out 0
      have BY:=bF Ba.out 1
      have BZ:=bF Ba.out 2
      have p152:0≤(x3_2:Int):=oE (by first|(with_reducible assumption)|assumption)
      have q152:x3_2<(l0_2.length:Int):=oE (by first|(with_reducible assumption)|assumption)
      obtain ⟨ad152,e152,hx152_0⟩:=Kd.at_int HR0_2.out x3_2 p152 q152
      cases e152
      replace hx152_0:=(bW HB hx152_0:)
      replace p152:=eq_true p152
      replace q152:=eq_true q152
      go_wp2_with (first|(go_at_call 65;(with_reducible refine (spec_l10Fixed.calls (wrap64 (x3_2 + 1)) true _ A23.out).mono ?_);rintro e w' ⟨rfl,⟨nd,rfl⟩⟩;have p156:0≤(x3_2:Int):=oE (by first|(with_reducible assumption)|assumption);have q156:x3_2<(l0_1.length:Int):=oE (by first|(with_reducible assumption)|assumption);obtain ⟨ad156,e156,hx156_0⟩:=Kd.at_bool HR0_1.out x3_2 p156 q156;(try rw [← Nbq26.out] at hx156_0);cases e156;replace hx156_0:=(HB.out.cell (World.block_lt_of_cell? w _ hx156_0)).trans hx156_0;replace p156:=eq_true p156;replace q156:=eq_true q156))
      go_ret
      exact ⟨by first|rfl|(simp [errW_none,errW_some] <;> rfl)|(simp [*,errW_none,errW_some] <;> rfl),by repeat (first|(with_reducible first|exact HB.out|apply oA|apply pN|apply o1|refine bS ?_ Bc.out)|exact HB.out)⟩
     rw [if_neg c22] at H
     have c22b0:((rd l0_2 x3_2) == 1)=false:=beq_eq_false_iff_ne.mpr c22
     have c22b1:((rd l0_2 x3_2) != 1)=true:=bne_iff_ne.mpr c22
     by_cases c31:(rd l0_2 x3_2)=4
     rotate_left
     ·rw [if_neg c31] at H
      have c31b0:((rd l0_2 x3_2) == 4)=false:=beq_eq_false_iff_ne.mpr c31
      have c31b1:((rd l0_2 x3_2) != 4)=true:=bne_iff_ne.mpr c31
      obtain rfl:=oJ H
      have Do:=cz0 Ba.out
      have Dp:=cz1 Ba.out
      have Dq:=cz2 Ba.out
      have Dr:=bF Ba.out 0
      have Ds:=bF Ba.out 1
      have Dt:=bF Ba.out 2
      have p152:0≤(x3_2:Int):=oE (by first|(with_reducible assumption)|assumption)
      have q152:x3_2<(l0_2.length:Int):=oE (by first|(with_reducible assumption)|assumption)
      obtain ⟨ad152,e152,hx152_0⟩:=Kd.at_int HR0_2.out x3_2 p152 q152
      cases e152
      replace hx152_0:=(bW HB hx152_0:)
      replace p152:=eq_true p152
      replace q152:=eq_true q152
      go_wp2
      go_ret
      exact ⟨by first|rfl|(simp [errW_none,errW_some] <;> rfl)|(simp [*,errW_none,errW_some] <;> rfl),by repeat (first|(with_reducible first|exact HB.out|apply oA|apply pN|apply o1|refine bS ?_ Bc.out)|exact HB.out)⟩
     rw [if_pos c31] at H
     have c31b0:((rd l0_2 x3_2) == 4)=true:=beq_iff_eq.mpr c31
     have c31b1:((rd l0_2 x3_2) != 4)=false:=bne_eq_false_iff_eq.mpr c31
     clear c31
     replace H:=oC H
     obtain ⟨t157,A320,H⟩:=H
     replace H:(if t157=true then (if x3_2<(l0_1.length:Int) then (if rdOf false l0_1 x3_2=true then (some false) else (some false)) else (none)) else (spec_SigsOk.l0 k2 (wrap64 (x3_2 + 1)) l0_0 l0_1 l0_2))=some r:=H
     have A32:=Am A320
     clear A320
     by_cases c33:t157=true
     rotate_left
     ·replace c33:=Bool.eq_false_iff.mpr c33
      subst c33
      have H1:(spec_SigsOk.l0 k2 (wrap64 (x3_2 + 1)) l0_0 l0_1 l0_2)=some r:=by rw [if_neg (show ¬ (false=true) by decide)] at H;exact H
      clear H
      have H:=H1
      clear H1
      have H':=Am H
      clear H
      have Di:=cz0 Ba.out
      have Dj:=cz1 Ba.out
      have Dk:=cz2 Ba.out
      have Dl:=bF Ba.out 0
      have Dm:=bF Ba.out 1
      have Dn:=bF Ba.out 2
      have p152:0≤(x3_2:Int):=oE (by first|(with_reducible assumption)|assumption)
      have q152:x3_2<(l0_2.length:Int):=oE (by first|(with_reducible assumption)|assumption)
      obtain ⟨ad152,e152,hx152_0⟩:=Kd.at_int HR0_2.out x3_2 p152 q152
      cases e152
      replace hx152_0:=(bW HB hx152_0:)
      replace p152:=eq_true p152
      replace q152:=eq_true q152
      go_wp2_with (first|(go_at_call 65;(with_reducible refine (spec_l10Fixed.calls (wrap64 (x3_2 + 1)) false _ A32.out).mono ?_);rintro e w' ⟨rfl,⟨nd,rfl⟩⟩))
      go_roundg k2
      case measure=>have:=Bd.out;have:=HK2.out;omega
      case rel=>exact ⟨(wrap64 (x3_2 + 1)),(by first|rfl|(simp;done)|(simp [*];done)),H',⟨by have:=Bd.out;have:=HK2.out;omega⟩,⟨by (with_reducible repeat (first|refine bN ?_ _|refine bD ?_|refine bA ?_ _));exact Ba.out⟩,⟨by repeat (first|(with_reducible first|exact HB.out|apply oA|apply pN|apply o1|refine bS ?_ Bc.out)|exact HB.out)⟩⟩
     subst c33
     have H1:(if x3_2<(l0_1.length:Int) then (if rdOf false l0_1 x3_2=true then (some false) else (some false)) else (none))=some r:=by rw [if_pos rfl] at H;exact H
     clear H
     have H:=H1
     clear H1
     by_cases c34:x3_2<(l0_1.length:Int)
     rotate_left
     ·rw [if_neg c34] at H
      exact absurd H (by simp)
     rw [if_pos c34] at H
     have c34b0:decide (x3_2<(l0_1.length:Int))=true:=dT c34
     clear c34
     obtain ⟨bq35,hbq35⟩:∃ b_:Bool,b_=(rdOf false l0_1 x3_2):=⟨_,rfl⟩
     replace H:(if bq35=true then (some false) else (some false))=some r:=by rw [← hbq35] at H;exact H
     have Nbq35:=Am hbq35
     clear hbq35
     by_cases c36:bq35=true
     ·subst c36
      have H1:(some false)=some r:=by rw [if_pos rfl] at H;exact H
      clear H
      have H:=H1
      clear H1
      obtain rfl:=oJ H
      have B6:=cz0 Ba.out
      have B7:=cz1 Ba.out
      have B8:=cz2 Ba.out
      have B9:=bF Ba.out 0
      have Da:=bF Ba.out 1
      have Db:=bF Ba.out 2
      have p152:0≤(x3_2:Int):=oE (by first|(with_reducible assumption)|assumption)
      have q152:x3_2<(l0_2.length:Int):=oE (by first|(with_reducible assumption)|assumption)
      obtain ⟨ad152,e152,hx152_0⟩:=Kd.at_int HR0_2.out x3_2 p152 q152
      cases e152
      replace hx152_0:=(bW HB hx152_0:)
      replace p152:=eq_true p152
      replace q152:=eq_true q152
      go_wp2_with (first|(go_at_call 65;(with_reducible refine (spec_l10Fixed.calls (wrap64 (x3_2 + 1)) true _ A32.out).mono ?_);rintro e w' ⟨rfl,⟨nd,rfl⟩⟩;have p158:0≤(x3_2:Int):=oE (by first|(with_reducible assumption)|assumption);have q158:x3_2<(l0_1.length:Int):=oE (by first|(with_reducible assumption)|assumption);obtain ⟨ad158,e158,hx158_0⟩:=Kd.at_bool HR0_1.out x3_2 p158 q158;(try rw [← Nbq35.out] at hx158_0);cases e158;replace hx158_0:=(HB.out.cell (World.block_lt_of_cell? w _ hx158_0)).trans hx158_0;replace p158:=eq_true p158;replace q158:=eq_true q158))
      go_ret
      exact ⟨by first|rfl|(simp [errW_none,errW_some] <;> rfl)|(simp [*,errW_none,errW_some] <;> rfl),by repeat (first|(with_reducible first|exact HB.out|apply oA|apply pN|apply o1|refine bS ?_ Bc.out)|exact HB.out)⟩
     replace c36:=Bool.eq_false_iff.mpr c36
     subst c36
     have H1:(some false)=some r:=by rw [if_neg (show ¬ (false=true) by decide)] at H;exact H
     clear H
     have H:=H1
     clear H1
     obtain rfl:=oJ H
     have Dc:=cz0 Ba.out
     have Dd:=cz1 Ba.out
     have De:=cz2 Ba.out
     have Df:=bF Ba.out 0
     have Dg:=bF Ba.out 1
     have Dh:=bF Ba.out 2
     have p152:0≤(x3_2:Int):=oE (by first|(with_reducible assumption)|assumption)
     have q152:x3_2<(l0_2.length:Int):=oE (by first|(with_reducible assumption)|assumption)
     obtain ⟨ad152,e152,hx152_0⟩:=Kd.at_int HR0_2.out x3_2 p152 q152
     cases e152
     replace hx152_0:=(bW HB hx152_0:)
     replace p152:=eq_true p152
     replace q152:=eq_true q152
     go_wp2_with (first|(go_at_call 65;(with_reducible refine (spec_l10Fixed.calls (wrap64 (x3_2 + 1)) true _ A32.out).mono ?_);rintro e w' ⟨rfl,⟨nd,rfl⟩⟩;have p158:0≤(x3_2:Int):=oE (by first|(with_reducible assumption)|assumption);have q158:x3_2<(l0_1.length:Int):=oE (by first|(with_reducible assumption)|assumption);obtain ⟨ad158,e158,hx158_0⟩:=Kd.at_bool HR0_1.out x3_2 p158 q158;(try rw [← Nbq35.out] at hx158_0);cases e158;replace hx158_0:=(HB.out.cell (World.block_lt_of_cell? w _ hx158_0)).trans hx158_0;replace p158:=eq_true p158;replace q158:=eq_true q158))
     go_ret
     exact ⟨by first|rfl|(simp [errW_none,errW_some] <;> rfl)|(simp [*,errW_none,errW_some] <;> rfl),by repeat (first|(with_reducible first|exact HB.out|apply oA|apply pN|apply o1|refine bS ?_ Bc.out)|exact HB.out)⟩
end Go.Proofs.Ytehekikjadjdaaa.PFnExactSigsRun
