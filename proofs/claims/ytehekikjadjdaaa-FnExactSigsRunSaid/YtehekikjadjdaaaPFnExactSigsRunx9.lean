/- Proved here, without a condition beyond those that each theorem states: what the Go functions named below do is what the plain functions of the same names say. Written by xprint.py, a program of this session. -/
import Derived.Test.YtehekikjadjdaaaPFnExactSigsRunx0
namespace Go.Proofs.Ytehekikjadjdaaa.PFnExactSigsRun
open Go.RowKit Go.Proofs.YtehekikjadjdaaaW.PrintWords Go.Proofs.YtehekikjadjdaaaW.PrintLast Go.Proofs.YtehekikjadjdaaaW.PrintMore
attribute [local go_sem] max2_int min2_int max_two min_two max_three min_three max_four min_four   -- for this text's walks alone
set_option linter.unusedVariables false
set_option linter.unusedSimpArgs false

attribute [local go_sem ↓] isSome_setCell_
/-! ### impl_SigsOk: function 59 -/
mutual
def impl_SigsOk.j0 : Nat → Bool → List Bool → List Bool → List Int → Option (Bool)
|0, _, _, _, _ => none
|k + 1, x21, x195000, x195001, x195002 => if x21 = true then (some false) else (impl_SigsOk.l0 k x195002 (x195002.length : Int) 0 x195000 x195001 x195002)
def impl_SigsOk.l0 : Nat → List Int → Int → Int → List Bool → List Bool → List Int → Option (Bool)
|0, _, _, _, _, _, _ => none
|k + 1, x23, x24, x25, x195000, x195001, x195002 => if x25 < x24 then (if 0 ≤ x25 then (if x25 < (x23.length : Int) then (if (wrap64 (x25 + 1)) = 1 then (if (rd x23 x25) = 0 then (if x25 < (x195001.length : Int) then (if rdOf false x195001 x25 = true then (some false) else (impl_SigsOk.l0 k x23 x24 (wrap64 (x25 + 1)) x195000 x195001 x195002)) else (none)) else (if (rd x23 x25) = 1 then (if x25 < (x195001.length : Int) then (if rdOf false x195001 x25 = true then (some false) else (some false)) else (none)) else (if (rd x23 x25) = 4 then (if x25 < (x195001.length : Int) then (if rdOf false x195001 x25 = true then (some false) else (some false)) else (none)) else (some false)))) else (if (rd x23 x25) = 0 then (if (wrap64 (x25 + 1)) = 2 then (if x25 < (x195001.length : Int) then (if rdOf false x195001 x25 = true then (some false) else (impl_SigsOk.l0 k x23 x24 (wrap64 (x25 + 1)) x195000 x195001 x195002)) else (none)) else (impl_SigsOk.l0 k x23 x24 (wrap64 (x25 + 1)) x195000 x195001 x195002)) else (if (rd x23 x25) = 1 then (if (wrap64 (x25 + 1)) = 2 then (if x25 < (x195001.length : Int) then (if rdOf false x195001 x25 = true then (some false) else (some false)) else (none)) else (impl_SigsOk.l0 k x23 x24 (wrap64 (x25 + 1)) x195000 x195001 x195002)) else (if (rd x23 x25) = 4 then (if (wrap64 (x25 + 1)) = 2 then (if x25 < (x195001.length : Int) then (if rdOf false x195001 x25 = true then (some false) else (some false)) else (none)) else (impl_SigsOk.l0 k x23 x24 (wrap64 (x25 + 1)) x195000 x195001 x195002)) else (some false))))) else (none)) else (none)) else (some true)
end
def impl_SigsOk.f (k : Nat) (l0_0 : List Bool) (l0_1 : List Bool) (l0_2 : List Int) : Option (Bool) := if (l0_0.length : Int) = 8 then (if (l0_1.length : Int) = 8 then (impl_SigsOk.j0 k ((l0_2.length : Int) != 8) l0_0 l0_1 l0_2) else (impl_SigsOk.j0 k true l0_0 l0_1 l0_2)) else (impl_SigsOk.j0 k true l0_0 l0_1 l0_2)
theorem impl_SigsOk.mono_l : ∀ k, (∀ y0 y1 y2 y3, LeO (impl_SigsOk.j0 k y0 y1 y2 y3) (impl_SigsOk.j0 (k + 1) y0 y1 y2 y3)) ∧ (∀ y0 y1 y2 y3 y4 y5, LeO (impl_SigsOk.l0 k y0 y1 y2 y3 y4 y5) (impl_SigsOk.l0 (k + 1) y0 y1 y2 y3 y4 y5))
|0 => ⟨fun _ _ _ _ r h => by simp [impl_SigsOk.j0] at h, fun _ _ _ _ _ _ r h => by simp [impl_SigsOk.l0] at h⟩
|k + 1 => by
  obtain ⟨ih0, ih1⟩ := impl_SigsOk.mono_l k
  refine ⟨?_, ?_⟩
  ·intro y0 y1 y2 y3
   unfold impl_SigsOk.j0
   repeat' first
  |(with_reducible exact ih0 _ _ _ _)
  |(with_reducible exact ih1 _ _ _ _ _ _)
  |(with_reducible exact LeO.refl _)
  |(with_reducible exact LeO.none _)
  |(with_reducible refine LeO.ite ?_ ?_)
  |(with_reducible refine LeO.bind ?_ (fun _ => ?_))
  |exact ih0 _ _ _ _
  |exact ih1 _ _ _ _ _ _
  |exact LeO.none _
  |refine LeO.ite ?_ ?_
  |refine LeO.bind ?_ (fun _ => ?_)
  ·intro y0 y1 y2 y3 y4 y5
   unfold impl_SigsOk.l0
   repeat' first
  |(with_reducible exact ih0 _ _ _ _)
  |(with_reducible exact ih1 _ _ _ _ _ _)
  |(with_reducible exact LeO.refl _)
  |(with_reducible exact LeO.none _)
  |(with_reducible refine LeO.ite ?_ ?_)
  |(with_reducible refine LeO.bind ?_ (fun _ => ?_))
  |exact ih0 _ _ _ _
  |exact ih1 _ _ _ _ _ _
  |exact LeO.none _
  |refine LeO.ite ?_ ?_
  |refine LeO.bind ?_ (fun _ => ?_)
theorem impl_SigsOk.mono : ∀ a0 a1 a2 k, LeO (impl_SigsOk.f k a0 a1 a2) (impl_SigsOk.f (k + 1) a0 a1 a2) := by
 intro a0 a1 a2 k
 obtain ⟨ih0, ih1⟩ := impl_SigsOk.mono_l k
 unfold impl_SigsOk.f
 repeat' first
  |(with_reducible exact ih0 _ _ _ _)
  |(with_reducible exact ih1 _ _ _ _ _ _)
  |(with_reducible exact LeO.refl _)
  |(with_reducible exact LeO.none _)
  |(with_reducible refine LeO.ite ?_ ?_)
  |(with_reducible refine LeO.bind ?_ (fun _ => ?_))
  |exact ih0 _ _ _ _
  |exact ih1 _ _ _ _ _ _
  |exact LeO.none _
  |refine LeO.ite ?_ ?_
  |refine LeO.bind ?_ (fun _ => ?_)
set_option maxHeartbeats 2000000 in
set_option maxRecDepth 100000 in
theorem impl_SigsOk.calls (k:Nat) (A0_0:Option Addr) (c0_0:Nat) (l0_0:List Bool) (A0_1:Option Addr) (c0_1:Nat) (l0_1:List Bool) (A0_2:Option Addr) (c0_2:Nat) (l0_2:List Int) (r:Bool) (w:World) (hr0_0:Kd.C Kd.bool w A0_0 l0_0.length l0_0) (hc0_0:l0_0.length≤c0_0) (hr0_1:Kd.C Kd.bool w A0_1 l0_1.length l0_1) (hc0_1:l0_1.length≤c0_1) (hr0_2:Kd.C (Kd.int .i64) w A0_2 l0_2.length l0_2) (hc0_2:l0_2.length≤c0_2) (h:impl_SigsOk.f k l0_0 l0_1 l0_2=some r) :
  Calls Try.prog 59 #[.agg #[.slice A0_0 l0_0.length c0_0,.slice A0_1 l0_1.length c0_1,.slice A0_2 l0_2.length c0_2]] w fun e w'=>e=.returned (.bool r)∧Below w.heap.size w w':=by
 have hu27:=Try.underlying27
 have HR0_0:=Am hr0_0
 have HC0_0:=Am hc0_0
 clear hr0_0 hc0_0
 have HR0_1:=Am hr0_1
 have HC0_1:=Am hc0_1
 clear hr0_1 hc0_1
 have HR0_2:=Am hr0_2
 have HC0_2:=Am hc0_2
 clear hr0_2 hc0_2
 have HB:=Am (bJ w.heap.size w)
 have H:(if (l0_0.length:Int)=8 then (if (l0_1.length:Int)=8 then (impl_SigsOk.j0 k ((l0_2.length:Int) != 8) l0_0 l0_1 l0_2) else (impl_SigsOk.j0 k true l0_0 l0_1 l0_2)) else (impl_SigsOk.j0 k true l0_0 l0_1 l0_2))=some r:=h
 clear h
 have HC2:=Am H
 clear H
 go_enter Try.func59,Try.ntmps59
 go_upto_region 1 with (first|((with_reducible refine gD (N:=1) rfl ?_);(try (refine gate_guard (by rfl) ?_;dsimp only));refine bI ?hg (N:=1) ?hd (cs:=#[.slice A0_0 l0_0.length c0_0,.slice A0_1 l0_1.length c0_1,.slice A0_2 l0_2.length c0_2]) (t:=27) ?hr ?_;(case hd=>rfl);(case hg=>rfl);(case hr=>first|(go_simp;done)|(go_simp;rfl));intro Bb hg w3 hbox hb;have n0_:=Am (bP (by repeat (first|(with_reducible first|exact HB.out|apply oA|apply pN|apply o1)|exact HB.out)) hb);have n1_:=Am (hbox);have n2_:=Am ((by rw [hg];exact (bZ (by repeat (first|(with_reducible first|exact HB.out|apply oA|apply pN|apply o1)|exact HB.out))):w.heap.size≤Bb));have n3_:=Am ((by rw [hg];exact (bZ (by repeat (first|(with_reducible first|exact HB.out|apply oA|apply pN|apply o1)|exact HB.out))):w.heap.size≤Bb));clear HB;revert n0_ n1_ n2_ n3_;intro HB Ba DM Bc;clear hb hbox hg))
 (try simp only [Act.put,lA,lZ,lS])
 go_cut [21] (fun v21 wc=>∃ (kq:Nat) (x21_1:Bool),v21=.bool x21_1∧Aside0 (impl_SigsOk.j0 kq x21_1 l0_0 l0_1 l0_2=some r)∧Aside0 (kq≤k)∧Aside0 (wc.heap[Bb]?=some (.cells #[(.slice A0_0 l0_0.length c0_0),(.slice A0_1 l0_1.length c0_1),(.slice A0_2 l0_2.length c0_2)] 27 (0,0)))∧Aside0 (Below w.heap.size w wc))
 case first =>
  have H:=HC2.out
  clear HC2
  by_cases c4:(l0_0.length:Int)=8
  rotate_left
  ·rw [if_neg c4] at H
   have c4b0:((l0_0.length:Int) == 8)=false:=beq_eq_false_iff_ne.mpr c4
   have c4b1:((l0_0.length:Int) != 8)=true:=bne_iff_ne.mpr c4
   (first|rw [c4b0]|(simp only [i64_w,i32_w];rw [c4b0])|skip)
   have H':=Am H
   clear H
   have Bq:=cz0 Ba.out
   have Br:=cz1 Ba.out
   have Bs:=cz2 Ba.out
   have Bt:=bF Ba.out 0
   have Bu:=bF Ba.out 1
   have Bv:=bF Ba.out 2
   go_wp2
   go_meet
   case rel=>exact ⟨_,(true),(by first|rfl|(simp;done)|(simp [*];done)),H',⟨by first|omega|exact nR _⟩,⟨by (with_reducible repeat (first|refine bN ?_ _|refine bD ?_|refine bA ?_ _));exact Ba.out⟩,⟨by repeat (first|(with_reducible first|exact HB.out|apply oA|apply pN|apply o1|refine bS ?_ Bc.out)|exact HB.out)⟩⟩
  rw [if_pos c4] at H
  have c4b0:((l0_0.length:Int) == 8)=true:=beq_iff_eq.mpr c4
  have c4b1:((l0_0.length:Int) != 8)=false:=bne_eq_false_iff_eq.mpr c4
  clear c4
  (first|rw [c4b0]|(simp only [i64_w,i32_w];rw [c4b0])|skip)
  by_cases c5:(l0_1.length:Int)=8
  rotate_left
  ·rw [if_neg c5] at H
   have c5b0:((l0_1.length:Int) == 8)=false:=beq_eq_false_iff_ne.mpr c5
   have c5b1:((l0_1.length:Int) != 8)=true:=bne_iff_ne.mpr c5
   have H':=Am H
   clear H
   have Bk:=cz0 Ba.out
   have Bl:=cz1 Ba.out
   have Bm:=cz2 Ba.out
   have Bn:=bF Ba.out 0
   have Bo:=bF Ba.out 1
   have Bp:=bF Ba.out 2
   go_wp2
   go_meet
   case rel=>exact ⟨_,(true),(by first|rfl|(simp;done)|(simp [*];done)),H',⟨by first|omega|exact nR _⟩,⟨by (with_reducible repeat (first|refine bN ?_ _|refine bD ?_|refine bA ?_ _));exact Ba.out⟩,⟨by repeat (first|(with_reducible first|exact HB.out|apply oA|apply pN|apply o1|refine bS ?_ Bc.out)|exact HB.out)⟩⟩
  rw [if_pos c5] at H
  have c5b0:((l0_1.length:Int) == 8)=true:=beq_iff_eq.mpr c5
  have c5b1:((l0_1.length:Int) != 8)=false:=bne_eq_false_iff_eq.mpr c5
  clear c5
  have H':=Am H
  clear H
  have Be:=cz0 Ba.out
  have Bf:=cz1 Ba.out
  have Bg:=cz2 Ba.out
  have Bh:=bF Ba.out 0
  have Bi:=bF Ba.out 1
  have Bj:=bF Ba.out 2
  go_wp2
  go_meet
  case rel=>exact ⟨_,(((l0_2.length:Int) != 8)),(by first|rfl|(simp;done)|(simp [*];done)),H',⟨by first|omega|exact nR _⟩,⟨by (with_reducible repeat (first|refine bN ?_ _|refine bD ?_|refine bA ?_ _));exact Ba.out⟩,⟨by repeat (first|(with_reducible first|exact HB.out|apply oA|apply pN|apply o1|refine bS ?_ Bc.out)|exact HB.out)⟩⟩
 case rest =>
  clear HC2
  try clear p2
  try clear c4
  try clear c4b0
  try clear c4b1
  try clear c5
  try clear c5b0
  try clear c5b1
  try clear Be
  try clear Bf
  try clear Bg
  try clear Bk
  try clear Bl
  try clear Bm
  try clear Bq
  try clear Br
  try clear Bs
  try clear Bh
  try clear Bi
  try clear Bj
  try clear Bn
  try clear Bo
  try clear Bp
  try clear Bt
  try clear Bu
  try clear Bv
  obtain ⟨kq,x21_1,rfl,HA,Bd,Ba,HB⟩:=hcut
  cases kq with
 |zero=>exact absurd HA.out (by simp [impl_SigsOk.j0])
 |succ kj1 =>
   have H:=HA.out
   clear HA
   simp only [impl_SigsOk.j0] at H
   by_cases c9:x21_1=true
   ·subst c9
    have H1:(some false)=some r:=by rw [if_pos rfl] at H;exact H
    clear H
    have H:=H1
    clear H1
    obtain rfl:=oJ H
    go_wp2
    go_ret
    exact ⟨by first|rfl|(simp [errW_none,errW_some] <;> rfl)|(simp [*,errW_none,errW_some] <;> rfl),by repeat (first|(with_reducible first|exact HB.out|apply oA|apply pN|apply o1|refine bS ?_ Bc.out)|exact HB.out)⟩
   replace c9:=Bool.eq_false_iff.mpr c9
   subst c9
   have H1:(impl_SigsOk.l0 kj1 l0_2 (l0_2.length:Int) 0 l0_0 l0_1 l0_2)=some r:=by rw [if_neg (show ¬ (false=true) by decide)] at H;exact H
   clear H
   have H:=H1
   clear H1
   have H':=Am H
   clear H
   have Bw:=cz0 Ba.out
   have Bx:=cz1 Ba.out
   have By:=cz2 Ba.out
   have Bz:=bF Ba.out 0
   have BA:=bF Ba.out 1
   have BB:=bF Ba.out 2
   go_wp2
   go_loopg [25] kj1 (fun kq v25 w'=>∃ (x25_2:Int),v25=.int .i64 x25_2∧Aside0 (impl_SigsOk.l0 kq l0_2 (l0_2.length:Int) x25_2 l0_0 l0_1 l0_2=some r)∧Aside0 (kq≤kj1)∧Aside0 (w'.heap[Bb]?=some (.cells #[(.slice A0_0 l0_0.length c0_0),(.slice A0_1 l0_1.length c0_1),(.slice A0_2 l0_2.length c0_2)] 27 (0,0)))∧Aside0 (Below w.heap.size w w'))
   case atStart=>exact ⟨(0),(by first|rfl|(simp;done)|(simp [*];done)),H',⟨nR _⟩,⟨by (with_reducible repeat (first|refine bN ?_ _|refine bD ?_|refine bA ?_ _));exact Ba.out⟩,⟨by repeat (first|(with_reducible first|exact HB.out|apply oA|apply pN|apply o1|refine bS ?_ Bc.out)|exact HB.out)⟩⟩
   case round =>
    clear H'
    try clear p2
    try clear c4
    try clear c4b0
    try clear c4b1
    try clear c5
    try clear c5b0
    try clear c5b1
    try clear c9
    try clear Bw
    try clear Bx
    try clear By
    try clear Be
    try clear Bf
    try clear Bg
    try clear Bk
    try clear Bl
    try clear Bm
    try clear Bq
    try clear Br
    try clear Bs
    try clear Bz
    try clear BA
    try clear BB
    try clear Bh
    try clear Bi
    try clear Bj
    try clear Bn
    try clear Bo
    try clear Bp
    try clear Bt
    try clear Bu
    try clear Bv
    try clear p2
    obtain ⟨x25_2,rfl,HA,HK2,Ba,HB⟩:=hrel
    cases gk with
   |zero=>exact absurd HA.out (by simp [impl_SigsOk.l0])
   |succ k2 =>
     have H:=HA.out
     clear HA
     simp only [impl_SigsOk.l0] at H
     by_cases c11:x25_2<(l0_2.length:Int)
     rotate_left
     ·rw [if_neg c11] at H
      have c11b0:decide (x25_2<(l0_2.length:Int))=false:=dF c11
      clear c11
      obtain rfl:=oJ H
      go_wp2
      go_ret
      exact ⟨by first|rfl|(simp [errW_none,errW_some] <;> rfl)|(simp [*,errW_none,errW_some] <;> rfl),by repeat (first|(with_reducible first|exact HB.out|apply oA|apply pN|apply o1|refine bS ?_ Bc.out)|exact HB.out)⟩

     rw [if_pos c11] at H
     have c11b0:decide (x25_2<(l0_2.length:Int))=true:=dT c11
     clear c11
     by_cases c12:0≤x25_2
     rotate_left
     ·rw [if_neg c12] at H
      exact absurd H (by simp)
     rw [if_pos c12] at H
     have c12b0:decide (0≤x25_2)=true:=dT c12
     clear c12
     by_cases c13:x25_2<(l0_2.length:Int)
     rotate_left
     ·rw [if_neg c13] at H
      exact absurd H (by simp)
     rw [if_pos c13] at H
     have c13b0:decide (x25_2<(l0_2.length:Int))=true:=dT c13
     clear c13
     by_cases c14:(wrap64 (x25_2 + 1))=1
     ·rw [if_pos c14] at H
      have c14b0:((wrap64 (x25_2 + 1)) == 1)=true:=beq_iff_eq.mpr c14
      have c14b1:((wrap64 (x25_2 + 1)) != 1)=false:=bne_eq_false_iff_eq.mpr c14
      clear c14
      by_cases c15:(rd l0_2 x25_2)=0
      ·rw [if_pos c15] at H
       have c15b0:((rd l0_2 x25_2) == 0)=true:=beq_iff_eq.mpr c15
       have c15b1:((rd l0_2 x25_2) != 0)=false:=bne_eq_false_iff_eq.mpr c15
       clear c15
       by_cases c16:x25_2<(l0_1.length:Int)
       rotate_left
       ·rw [if_neg c16] at H
        exact absurd H (by simp)
       rw [if_pos c16] at H
       have c16b0:decide (x25_2<(l0_1.length:Int))=true:=dT c16
       clear c16
       obtain ⟨bq17,hbq17⟩:∃ b_:Bool,b_=(rdOf false l0_1 x25_2):=⟨_,rfl⟩
       replace H:(if bq17=true then (some false) else (impl_SigsOk.l0 k2 l0_2 (l0_2.length:Int) (wrap64 (x25_2 + 1)) l0_0 l0_1 l0_2))=some r:=by rw [← hbq17] at H;exact H
       have Nbq17:=Am hbq17
       clear hbq17
       by_cases c18:bq17=true
       ·subst c18
        have H1:(some false)=some r:=by rw [if_pos rfl] at H;exact H
        clear H
        have H:=H1
        clear H1
        obtain rfl:=oJ H
        have p195:0≤(x25_2:Int):=oE (by first|(with_reducible assumption)|assumption)
        have q195:x25_2<(l0_2.length:Int):=oE (by first|(with_reducible assumption)|assumption)
        obtain ⟨ad195,e195,hx195_0⟩:=Kd.at_int HR0_2.out x25_2 p195 q195
        cases e195
        replace hx195_0:=(bW HB hx195_0:)
        replace p195:=eq_true p195
        replace q195:=eq_true q195
        have BC:=cz0 Ba.out
        have BD:=cz1 Ba.out
        have BE:=cz2 Ba.out
        have BF:=bF Ba.out 0
        have BG:=bF Ba.out 1
        have BH:=bF Ba.out 2
        have p196:0≤(x25_2:Int):=oE (by first|(with_reducible assumption)|assumption)
        have q196:x25_2<(l0_1.length:Int):=oE (by first|(with_reducible assumption)|assumption)
        obtain ⟨ad196,e196,hx196_0⟩:=Kd.at_bool HR0_1.out x25_2 p196 q196
        (try rw [← Nbq17.out] at hx196_0)
        cases e196
        replace hx196_0:=(bW HB hx196_0:)
        replace p196:=eq_true p196
        replace q196:=eq_true q196
        go_wp2
        go_ret
        exact ⟨by first|rfl|(simp [errW_none,errW_some] <;> rfl)|(simp [*,errW_none,errW_some] <;> rfl),by repeat (first|(with_reducible first|exact HB.out|apply oA|apply pN|apply o1|refine bS ?_ Bc.out)|exact HB.out)⟩
       replace c18:=Bool.eq_false_iff.mpr c18
       subst c18
       have H1:(impl_SigsOk.l0 k2 l0_2 (l0_2.length:Int) (wrap64 (x25_2 + 1)) l0_0 l0_1 l0_2)=some r:=by rw [if_neg (show ¬ (false=true) by decide)] at H;exact H
       clear H
       have H:=H1
       clear H1
       have H':=Am H
       clear H
       have p195:0≤(x25_2:Int):=oE (by first|(with_reducible assumption)|assumption)
       have q195:x25_2<(l0_2.length:Int):=oE (by first|(with_reducible assumption)|assumption)
       obtain ⟨ad195,e195,hx195_0⟩:=Kd.at_int HR0_2.out x25_2 p195 q195
       cases e195
       replace hx195_0:=(bW HB hx195_0:)
       replace p195:=eq_true p195
       replace q195:=eq_true q195
       have BI:=cz0 Ba.out
       have BJ:=cz1 Ba.out
       have BK:=cz2 Ba.out
       have BL:=bF Ba.out 0
       have BM:=bF Ba.out 1
       have BN:=bF Ba.out 2
       have p196:0≤(x25_2:Int):=oE (by first|(with_reducible assumption)|assumption)
       have q196:x25_2<(l0_1.length:Int):=oE (by first|(with_reducible assumption)|assumption)
       obtain ⟨ad196,e196,hx196_0⟩:=Kd.at_bool HR0_1.out x25_2 p196 q196
       (try rw [← Nbq17.out] at hx196_0)
       cases e196
       replace hx196_0:=(bW HB hx196_0:)
       replace p196:=eq_true p196
       replace q196:=eq_true q196
       go_wp2
       go_roundg k2
       case measure=>have:=Bd.out;have:=HK2.out;omega
       case rel=>(try rw [← Nbq17.out]);exact ⟨(wrap64 (x25_2 + 1)),(by first|rfl|(simp;done)|(simp [*];done)),H',⟨by have:=Bd.out;have:=HK2.out;omega⟩,⟨by (with_reducible repeat (first|refine bN ?_ _|refine bD ?_|refine bA ?_ _));exact Ba.out⟩,⟨by repeat (first|(with_reducible first|exact HB.out|apply oA|apply pN|apply o1|refine bS ?_ Bc.out)|exact HB.out)⟩⟩
      rw [if_neg c15] at H
      have c15b0:((rd l0_2 x25_2) == 0)=false:=beq_eq_false_iff_ne.mpr c15
      have c15b1:((rd l0_2 x25_2) != 0)=true:=bne_iff_ne.mpr c15
      by_cases c21:(rd l0_2 x25_2)=1
      ·rw [if_pos c21] at H
       have c21b0:((rd l0_2 x25_2) == 1)=true:=beq_iff_eq.mpr c21
       have c21b1:((rd l0_2 x25_2) != 1)=false:=bne_eq_false_iff_eq.mpr c21
       clear c21
       by_cases c22:x25_2<(l0_1.length:Int)
       rotate_left
       ·rw [if_neg c22] at H
        exact absurd H (by simp)
       rw [if_pos c22] at H
       have c22b0:decide (x25_2<(l0_1.length:Int))=true:=dT c22
       clear c22
       obtain ⟨bq23,hbq23⟩:∃ b_:Bool,b_=(rdOf false l0_1 x25_2):=⟨_,rfl⟩
       replace H:(if bq23=true then (some false) else (some false))=some r:=by rw [← hbq23] at H;exact H
       have Nbq23:=Am hbq23
       clear hbq23
       by_cases c24:bq23=true
       ·subst c24
        have H1:(some false)=some r:=by rw [if_pos rfl] at H;exact H
        clear H
        have H:=H1
        clear H1
        obtain rfl:=oJ H
        have p195:0≤(x25_2:Int):=oE (by first|(with_reducible assumption)|assumption)
        have q195:x25_2<(l0_2.length:Int):=oE (by first|(with_reducible assumption)|assumption)
        obtain ⟨ad195,e195,hx195_0⟩:=Kd.at_int HR0_2.out x25_2 p195 q195
        cases e195
        replace hx195_0:=(bW HB hx195_0:)
        replace p195:=eq_true p195
        replace q195:=eq_true q195
        have BO:=cz0 Ba.out
        have BP:=cz1 Ba.out
        have BQ:=cz2 Ba.out
        have BR:=bF Ba.out 0
        have BS:=bF Ba.out 1
        have BT:=bF Ba.out 2
        have p197:0≤(x25_2:Int):=oE (by first|(with_reducible assumption)|assumption)
        have q197:x25_2<(l0_1.length:Int):=oE (by first|(with_reducible assumption)|assumption)
        obtain ⟨ad197,e197,hx197_0⟩:=Kd.at_bool HR0_1.out x25_2 p197 q197
        (try rw [← Nbq23.out] at hx197_0)
        cases e197
        replace hx197_0:=(bW HB hx197_0:)
        replace p197:=eq_true p197
        replace q197:=eq_true q197
        go_wp2
        go_ret
        exact ⟨by first|rfl|(simp [errW_none,errW_some] <;> rfl)|(simp [*,errW_none,errW_some] <;> rfl),by repeat (first|(with_reducible first|exact HB.out|apply oA|apply pN|apply o1|refine bS ?_ Bc.out)|exact HB.out)⟩
       replace c24:=Bool.eq_false_iff.mpr c24
       subst c24
       have H1:(some false)=some r:=by rw [if_neg (show ¬ (false=true) by decide)] at H;exact H
       clear H
       have H:=H1
       clear H1
       obtain rfl:=oJ H
       have p195:0≤(x25_2:Int):=oE (by first|(with_reducible assumption)|assumption)
       have q195:x25_2<(l0_2.length:Int):=oE (by first|(with_reducible assumption)|assumption)
       obtain ⟨ad195,e195,hx195_0⟩:=Kd.at_int HR0_2.out x25_2 p195 q195
       cases e195
       replace hx195_0:=(bW HB hx195_0:)
       replace p195:=eq_true p195
       replace q195:=eq_true q195
       have BU:=cz0 Ba.out
       have BV:=cz1 Ba.out
       have BW:=cz2 Ba.out
       have BX:=bF Ba.out 0
       have BY:=bF Ba.out 1
       have BZ:=bF Ba.out 2
       have p197:0≤(x25_2:Int):=oE (by first|(with_reducible assumption)|assumption)
       have q197:x25_2<(l0_1.length:Int):=oE (by first|(with_reducible assumption)|assumption)
       obtain ⟨ad197,e197,hx197_0⟩:=Kd.at_bool HR0_1.out x25_2 p197 q197
       (try rw [← Nbq23.out] at hx197_0)
       cases e197
       replace hx197_0:=(bW HB hx197_0:)
       replace p197:=eq_true p197
       replace q197:=eq_true q197
       go_wp2
       go_ret
       exact ⟨by first|rfl|(simp [errW_none,errW_some] <;> rfl)|(simp [*,errW_none,errW_some] <;> rfl),by repeat (first|(with_reducible first|exact HB.out|apply oA|apply pN|apply o1|refine bS ?_ Bc.out)|exact HB.out)⟩
      rw [if_neg c21] at H
      have c21b0:((rd l0_2 x25_2) == 1)=false:=beq_eq_false_iff_ne.mpr c21
      have c21b1:((rd l0_2 x25_2) != 1)=true:=bne_iff_ne.mpr c21
      by_cases c27:(rd l0_2 x25_2)=4
      rotate_left
      ·rw [if_neg c27] at H
       have c27b0:((rd l0_2 x25_2) == 4)=false:=beq_eq_false_iff_ne.mpr c27
       have c27b1:((rd l0_2 x25_2) != 4)=true:=bne_iff_ne.mpr c27
       obtain rfl:=oJ H
       have p195:0≤(x25_2:Int):=oE (by first|(with_reducible assumption)|assumption)
       have q195:x25_2<(l0_2.length:Int):=oE (by first|(with_reducible assumption)|assumption)
       obtain ⟨ad195,e195,hx195_0⟩:=Kd.at_int HR0_2.out x25_2 p195 q195
       cases e195
       replace hx195_0:=(bW HB hx195_0:)
       replace p195:=eq_true p195
       replace q195:=eq_true q195
       go_wp2
       go_ret
       exact ⟨by first|rfl|(simp [errW_none,errW_some] <;> rfl)|(simp [*,errW_none,errW_some] <;> rfl),by repeat (first|(with_reducible first|exact HB.out|apply oA|apply pN|apply o1|refine bS ?_ Bc.out)|exact HB.out)⟩
      rw [if_pos c27] at H
      have c27b0:((rd l0_2 x25_2) == 4)=true:=beq_iff_eq.mpr c27
      have c27b1:((rd l0_2 x25_2) != 4)=false:=bne_eq_false_iff_eq.mpr c27
      clear c27
      by_cases c28:x25_2<(l0_1.length:Int)
      rotate_left
      ·rw [if_neg c28] at H
       exact absurd H (by simp)
      rw [if_pos c28] at H
      have c28b0:decide (x25_2<(l0_1.length:Int))=true:=dT c28
      clear c28
      obtain ⟨bq29,hbq29⟩:∃ b_:Bool,b_=(rdOf false l0_1 x25_2):=⟨_,rfl⟩
      replace H:(if bq29=true then (some false) else (some false))=some r:=by rw [← hbq29] at H;exact H
      have Nbq29:=Am hbq29
      clear hbq29
      by_cases c30:bq29=true
      ·subst c30
       have H1:(some false)=some r:=by rw [if_pos rfl] at H;exact H
       clear H
       have H:=H1
       clear H1
       obtain rfl:=oJ H
       have p195:0≤(x25_2:Int):=oE (by first|(with_reducible assumption)|assumption)
       have q195:x25_2<(l0_2.length:Int):=oE (by first|(with_reducible assumption)|assumption)
       obtain ⟨ad195,e195,hx195_0⟩:=Kd.at_int HR0_2.out x25_2 p195 q195
       cases e195
       replace hx195_0:=(bW HB hx195_0:)
       replace p195:=eq_true p195
       replace q195:=eq_true q195
       have B0:=cz0 Ba.out
       have B1:=cz1 Ba.out
       have B2:=cz2 Ba.out
       have B3:=bF Ba.out 0
       have B4:=bF Ba.out 1
       have B5:=bF Ba.out 2
       have p198:0≤(x25_2:Int):=oE (by first|(with_reducible assumption)|assumption)
       have q198:x25_2<(l0_1.length:Int):=oE (by first|(with_reducible assumption)|assumption)
       obtain ⟨ad198,e198,hx198_0⟩:=Kd.at_bool HR0_1.out x25_2 p198 q198
       (try rw [← Nbq29.out] at hx198_0)
       cases e198
       replace hx198_0:=(bW HB hx198_0:)
       replace p198:=eq_true p198
       replace q198:=eq_true q198
       go_wp2
       go_ret
       exact ⟨by first|rfl|(simp [errW_none,errW_some] <;> rfl)|(simp [*,errW_none,errW_some] <;> rfl),by repeat (first|(with_reducible first|exact HB.out|apply oA|apply pN|apply o1|refine bS ?_ Bc.out)|exact HB.out)⟩
      replace c30:=Bool.eq_false_iff.mpr c30
      subst c30
      have H1:(some false)=some r:=by rw [if_neg (show ¬ (false=true) by decide)] at H;exact H
      clear H
      have H:=H1
      clear H1
      obtain rfl:=oJ H
      have p195:0≤(x25_2:Int):=oE (by first|(with_reducible assumption)|assumption)
      have q195:x25_2<(l0_2.length:Int):=oE (by first|(with_reducible assumption)|assumption)
      obtain ⟨ad195,e195,hx195_0⟩:=Kd.at_int HR0_2.out x25_2 p195 q195
      cases e195
      replace hx195_0:=(bW HB hx195_0:)
      replace p195:=eq_true p195
      replace q195:=eq_true q195
      have B6:=cz0 Ba.out
      have B7:=cz1 Ba.out
      have B8:=cz2 Ba.out
      have B9:=bF Ba.out 0
      have Da:=bF Ba.out 1
      have Db:=bF Ba.out 2
      have p198:0≤(x25_2:Int):=oE (by first|(with_reducible assumption)|assumption)
      have q198:x25_2<(l0_1.length:Int):=oE (by first|(with_reducible assumption)|assumption)
      obtain ⟨ad198,e198,hx198_0⟩:=Kd.at_bool HR0_1.out x25_2 p198 q198
      (try rw [← Nbq29.out] at hx198_0)
      cases e198
      replace hx198_0:=(bW HB hx198_0:)
      replace p198:=eq_true p198
      replace q198:=eq_true q198
      go_wp2
      go_ret
      exact ⟨by first|rfl|(simp [errW_none,errW_some] <;> rfl)|(simp [*,errW_none,errW_some] <;> rfl),by repeat (first|(with_reducible first|exact HB.out|apply oA|apply pN|apply o1|refine bS ?_ Bc.out)|exact HB.out)⟩
     rw [if_neg c14] at H
     have c14b0:((wrap64 (x25_2 + 1)) == 1)=false:=beq_eq_false_iff_ne.mpr c14
     have c14b1:((wrap64 (x25_2 + 1)) != 1)=true:=bne_iff_ne.mpr c14
     by_cases c33:(rd l0_2 x25_2)=0
     ·rw [if_pos c33] at H
      have c33b0:((rd l0_2 x25_2) == 0)=true:=beq_iff_eq.mpr c33
      have c33b1:((rd l0_2 x25_2) != 0)=false:=bne_eq_false_iff_eq.mpr c33
      clear c33
      by_cases c34:(wrap64 (x25_2 + 1))=2
      rotate_left
      ·rw [if_neg c34] at H
       have c34b0:((wrap64 (x25_2 + 1)) == 2)=false:=beq_eq_false_iff_ne.mpr c34
       have c34b1:((wrap64 (x25_2 + 1)) != 2)=true:=bne_iff_ne.mpr c34
       have H':=Am H
       clear H
       have p195:0≤(x25_2:Int):=oE (by first|(with_reducible assumption)|assumption)
       have q195:x25_2<(l0_2.length:Int):=oE (by first|(with_reducible assumption)|assumption)
       obtain ⟨ad195,e195,hx195_0⟩:=Kd.at_int HR0_2.out x25_2 p195 q195
       cases e195
       replace hx195_0:=(bW HB hx195_0:)
       replace p195:=eq_true p195
       replace q195:=eq_true q195
       go_wp2
       go_roundg k2
       case measure=>have:=Bd.out;have:=HK2.out;omega
       case rel=>exact ⟨(wrap64 (x25_2 + 1)),(by first|rfl|(simp;done)|(simp [*];done)),H',⟨by have:=Bd.out;have:=HK2.out;omega⟩,⟨by (with_reducible repeat (first|refine bN ?_ _|refine bD ?_|refine bA ?_ _));exact Ba.out⟩,⟨by repeat (first|(with_reducible first|exact HB.out|apply oA|apply pN|apply o1|refine bS ?_ Bc.out)|exact HB.out)⟩⟩
      rw [if_pos c34] at H
      have c34b0:((wrap64 (x25_2 + 1)) == 2)=true:=beq_iff_eq.mpr c34
      have c34b1:((wrap64 (x25_2 + 1)) != 2)=false:=bne_eq_false_iff_eq.mpr c34
      clear c34
      by_cases c35:x25_2<(l0_1.length:Int)
      rotate_left
      ·rw [if_neg c35] at H
       exact absurd H (by simp)
      rw [if_pos c35] at H
      have c35b0:decide (x25_2<(l0_1.length:Int))=true:=dT c35
      clear c35
      obtain ⟨bq36,hbq36⟩:∃ b_:Bool,b_=(rdOf false l0_1 x25_2):=⟨_,rfl⟩
      replace H:(if bq36=true then (some false) else (impl_SigsOk.l0 k2 l0_2 (l0_2.length:Int) (wrap64 (x25_2 + 1)) l0_0 l0_1 l0_2))=some r:=by rw [← hbq36] at H;exact H
      have Nbq36:=Am hbq36
      clear hbq36
      by_cases c37:bq36=true
      ·subst c37
       have H1:(some false)=some r:=by rw [if_pos rfl] at H;exact H
       clear H
       have H:=H1
       clear H1
       obtain rfl:=oJ H
       have p195:0≤(x25_2:Int):=oE (by first|(with_reducible assumption)|assumption)
       have q195:x25_2<(l0_2.length:Int):=oE (by first|(with_reducible assumption)|assumption)
       obtain ⟨ad195,e195,hx195_0⟩:=Kd.at_int HR0_2.out x25_2 p195 q195
       cases e195
       replace hx195_0:=(bW HB hx195_0:)
       replace p195:=eq_true p195
       replace q195:=eq_true q195
       have Dc:=cz0 Ba.out
       have Dd:=cz1 Ba.out
       have De:=cz2 Ba.out
       have Df:=bF Ba.out 0
       have Dg:=bF Ba.out 1
       have Dh:=bF Ba.out 2
       have p199:0≤(x25_2:Int):=oE (by first|(with_reducible assumption)|assumption)
       have q199:x25_2<(l0_1.length:Int):=oE (by first|(with_reducible assumption)|assumption)
       obtain ⟨ad199,e199,hx199_0⟩:=Kd.at_bool HR0_1.out x25_2 p199 q199
       (try rw [← Nbq36.out] at hx199_0)
       cases e199
       replace hx199_0:=(bW HB hx199_0:)
       replace p199:=eq_true p199
       replace q199:=eq_true q199
       go_wp2
       go_ret
       exact ⟨by first|rfl|(simp [errW_none,errW_some] <;> rfl)|(simp [*,errW_none,errW_some] <;> rfl),by repeat (first|(with_reducible first|exact HB.out|apply oA|apply pN|apply o1|refine bS ?_ Bc.out)|exact HB.out)⟩
      replace c37:=Bool.eq_false_iff.mpr c37
      subst c37
      have H1:(impl_SigsOk.l0 k2 l0_2 (l0_2.length:Int) (wrap64 (x25_2 + 1)) l0_0 l0_1 l0_2)=some r:=by rw [if_neg (show ¬ (false=true) by decide)] at H;exact H
      clear H
      have H:=H1
      clear H1
      have H':=Am H
      clear H
      have p195:0≤(x25_2:Int):=oE (by first|(with_reducible assumption)|assumption)
      have q195:x25_2<(l0_2.length:Int):=oE (by first|(with_reducible assumption)|assumption)
      obtain ⟨ad195,e195,hx195_0⟩:=Kd.at_int HR0_2.out x25_2 p195 q195
      cases e195
      replace hx195_0:=(bW HB hx195_0:)
      replace p195:=eq_true p195
      replace q195:=eq_true q195
      have Di:=cz0 Ba.out
      have Dj:=cz1 Ba.out
      have Dk:=cz2 Ba.out
      have Dl:=bF Ba.out 0
      have Dm:=bF Ba.out 1
      have Dn:=bF Ba.out 2
      have p199:0≤(x25_2:Int):=oE (by first|(with_reducible assumption)|assumption)
      have q199:x25_2<(l0_1.length:Int):=oE (by first|(with_reducible assumption)|assumption)
      obtain ⟨ad199,e199,hx199_0⟩:=Kd.at_bool HR0_1.out x25_2 p199 q199
      (try rw [← Nbq36.out] at hx199_0)
      cases e199
      replace hx199_0:=(bW HB hx199_0:)
      replace p199:=eq_true p199
      replace q199:=eq_true q199
      go_wp2
      go_roundg k2
      case measure=>have:=Bd.out;have:=HK2.out;omega
      case rel=>(try rw [← Nbq36.out]);exact ⟨(wrap64 (x25_2 + 1)),(by first|rfl|(simp;done)|(simp [*];done)),H',⟨by have:=Bd.out;have:=HK2.out;omega⟩,⟨by (with_reducible repeat (first|refine bN ?_ _|refine bD ?_|refine bA ?_ _));exact Ba.out⟩,⟨by repeat (first|(with_reducible first|exact HB.out|apply oA|apply pN|apply o1|refine bS ?_ Bc.out)|exact HB.out)⟩⟩
     rw [if_neg c33] at H
     have c33b0:((rd l0_2 x25_2) == 0)=false:=beq_eq_false_iff_ne.mpr c33
     have c33b1:((rd l0_2 x25_2) != 0)=true:=bne_iff_ne.mpr c33
     by_cases c40:(rd l0_2 x25_2)=1
     ·rw [if_pos c40] at H
      have c40b0:((rd l0_2 x25_2) == 1)=true:=beq_iff_eq.mpr c40
      have c40b1:((rd l0_2 x25_2) != 1)=false:=bne_eq_false_iff_eq.mpr c40
      clear c40
      by_cases c41:(wrap64 (x25_2 + 1))=2
      rotate_left
      ·rw [if_neg c41] at H
       have c41b0:((wrap64 (x25_2 + 1)) == 2)=false:=beq_eq_false_iff_ne.mpr c41
       have c41b1:((wrap64 (x25_2 + 1)) != 2)=true:=bne_iff_ne.mpr c41
       have H':=Am H
       clear H
       have p195:0≤(x25_2:Int):=oE (by first|(with_reducible assumption)|assumption)
       have q195:x25_2<(l0_2.length:Int):=oE (by first|(with_reducible assumption)|assumption)
       obtain ⟨ad195,e195,hx195_0⟩:=Kd.at_int HR0_2.out x25_2 p195 q195
       cases e195
       replace hx195_0:=(bW HB hx195_0:)
       replace p195:=eq_true p195
       replace q195:=eq_true q195
       go_wp2
       go_roundg k2
       case measure=>have:=Bd.out;have:=HK2.out;omega
       case rel=>exact ⟨(wrap64 (x25_2 + 1)),(by first|rfl|(simp;done)|(simp [*];done)),H',⟨by have:=Bd.out;have:=HK2.out;omega⟩,⟨by (with_reducible repeat (first|refine bN ?_ _|refine bD ?_|refine bA ?_ _));exact Ba.out⟩,⟨by repeat (first|(with_reducible first|exact HB.out|apply oA|apply pN|apply o1|refine bS ?_ Bc.out)|exact HB.out)⟩⟩
      rw [if_pos c41] at H
      have c41b0:((wrap64 (x25_2 + 1)) == 2)=true:=beq_iff_eq.mpr c41
      have c41b1:((wrap64 (x25_2 + 1)) != 2)=false:=bne_eq_false_iff_eq.mpr c41
      clear c41
      by_cases c42:x25_2<(l0_1.length:Int)
      rotate_left
      ·rw [if_neg c42] at H
       exact absurd H (by simp)
      rw [if_pos c42] at H
      have c42b0:decide (x25_2<(l0_1.length:Int))=true:=dT c42
      clear c42
      obtain ⟨bq43,hbq43⟩:∃ b_:Bool,b_=(rdOf false l0_1 x25_2):=⟨_,rfl⟩
      replace H:(if bq43=true then (some false) else (some false))=some r:=by rw [← hbq43] at H;exact H
      have Nbq43:=Am hbq43
      clear hbq43
      by_cases c44:bq43=true
      ·subst c44
       have H1:(some false)=some r:=by rw [if_pos rfl] at H;exact H
       clear H
       have H:=H1
       clear H1
       obtain rfl:=oJ H
       have p195:0≤(x25_2:Int):=oE (by first|(with_reducible assumption)|assumption)
       have q195:x25_2<(l0_2.length:Int):=oE (by first|(with_reducible assumption)|assumption)
       obtain ⟨ad195,e195,hx195_0⟩:=Kd.at_int HR0_2.out x25_2 p195 q195
       cases e195
       replace hx195_0:=(bW HB hx195_0:)
       replace p195:=eq_true p195
       replace q195:=eq_true q195
       have Do:=cz0 Ba.out
       have Dp:=cz1 Ba.out
       have Dq:=cz2 Ba.out
       have Dr:=bF Ba.out 0
       have Ds:=bF Ba.out 1
       have Dt:=bF Ba.out 2
       have p200:0≤(x25_2:Int):=oE (by first|(with_reducible assumption)|assumption)
       have q200:x25_2<(l0_1.length:Int):=oE (by first|(with_reducible assumption)|assumption)
       obtain ⟨ad200,e200,hx200_0⟩:=Kd.at_bool HR0_1.out x25_2 p200 q200
       (try rw [← Nbq43.out] at hx200_0)
       cases e200
       replace hx200_0:=(bW HB hx200_0:)
       replace p200:=eq_true p200
       replace q200:=eq_true q200
       go_wp2
       go_ret
       exact ⟨by first|rfl|(simp [errW_none,errW_some] <;> rfl)|(simp [*,errW_none,errW_some] <;> rfl),by repeat (first|(with_reducible first|exact HB.out|apply oA|apply pN|apply o1|refine bS ?_ Bc.out)|exact HB.out)⟩
      replace c44:=Bool.eq_false_iff.mpr c44
      subst c44
      have H1:(some false)=some r:=by rw [if_neg (show ¬ (false=true) by decide)] at H;exact H
      clear H
      have H:=H1
      clear H1
      obtain rfl:=oJ H
      have p195:0≤(x25_2:Int):=oE (by first|(with_reducible assumption)|assumption)
      have q195:x25_2<(l0_2.length:Int):=oE (by first|(with_reducible assumption)|assumption)
      obtain ⟨ad195,e195,hx195_0⟩:=Kd.at_int HR0_2.out x25_2 p195 q195
      cases e195
      replace hx195_0:=(bW HB hx195_0:)
      replace p195:=eq_true p195
      replace q195:=eq_true q195
      have Du:=cz0 Ba.out
      have Dv:=cz1 Ba.out
      have Dw:=cz2 Ba.out
      have Dx:=bF Ba.out 0
      have Dy:=bF Ba.out 1
      have Dz:=bF Ba.out 2
      have p200:0≤(x25_2:Int):=oE (by first|(with_reducible assumption)|assumption)
      have q200:x25_2<(l0_1.length:Int):=oE (by first|(with_reducible assumption)|assumption)
      obtain ⟨ad200,e200,hx200_0⟩:=Kd.at_bool HR0_1.out x25_2 p200 q200
      (try rw [← Nbq43.out] at hx200_0)
      cases e200
      replace hx200_0:=(bW HB hx200_0:)
      replace p200:=eq_true p200
      replace q200:=eq_true q200
      go_wp2
      go_ret
      exact ⟨by first|rfl|(simp [errW_none,errW_some] <;> rfl)|(simp [*,errW_none,errW_some] <;> rfl),by repeat (first|(with_reducible first|exact HB.out|apply oA|apply pN|apply o1|refine bS ?_ Bc.out)|exact HB.out)⟩
     rw [if_neg c40] at H
     have c40b0:((rd l0_2 x25_2) == 1)=false:=beq_eq_false_iff_ne.mpr c40
     have c40b1:((rd l0_2 x25_2) != 1)=true:=bne_iff_ne.mpr c40
     by_cases c47:(rd l0_2 x25_2)=4
     rotate_left
     ·rw [if_neg c47] at H
      have c47b0:((rd l0_2 x25_2) == 4)=false:=beq_eq_false_iff_ne.mpr c47
      have c47b1:((rd l0_2 x25_2) != 4)=true:=bne_iff_ne.mpr c47
      obtain rfl:=oJ H
      have p195:0≤(x25_2:Int):=oE (by first|(with_reducible assumption)|assumption)
      have q195:x25_2<(l0_2.length:Int):=oE (by first|(with_reducible assumption)|assumption)
      obtain ⟨ad195,e195,hx195_0⟩:=Kd.at_int HR0_2.out x25_2 p195 q195
      cases e195
      replace hx195_0:=(bW HB hx195_0:)
      replace p195:=eq_true p195
      replace q195:=eq_true q195
      go_wp2
      go_ret
      exact ⟨by first|rfl|(simp [errW_none,errW_some] <;> rfl)|(simp [*,errW_none,errW_some] <;> rfl),by repeat (first|(with_reducible first|exact HB.out|apply oA|apply pN|apply o1|refine bS ?_ Bc.out)|exact HB.out)⟩
     rw [if_pos c47] at H
     have c47b0:((rd l0_2 x25_2) == 4)=true:=beq_iff_eq.mpr c47
     have c47b1:((rd l0_2 x25_2) != 4)=false:=bne_eq_false_iff_eq.mpr c47
     clear c47
     by_cases c48:(wrap64 (x25_2 + 1))=2
     rotate_left
     ·rw [if_neg c48] at H
      have c48b0:((wrap64 (x25_2 + 1)) == 2)=false:=beq_eq_false_iff_ne.mpr c48
      have c48b1:((wrap64 (x25_2 + 1)) != 2)=true:=bne_iff_ne.mpr c48
      have H':=Am H
      clear H
      have p195:0≤(x25_2:Int):=oE (by first|(with_reducible assumption)|assumption)
      have q195:x25_2<(l0_2.length:Int):=oE (by first|(with_reducible assumption)|assumption)
      obtain ⟨ad195,e195,hx195_0⟩:=Kd.at_int HR0_2.out x25_2 p195 q195
      cases e195
      replace hx195_0:=(bW HB hx195_0:)
      replace p195:=eq_true p195
      replace q195:=eq_true q195
      go_wp2
      go_roundg k2
      case measure=>have:=Bd.out;have:=HK2.out;omega
      case rel=>exact ⟨(wrap64 (x25_2 + 1)),(by first|rfl|(simp;done)|(simp [*];done)),H',⟨by have:=Bd.out;have:=HK2.out;omega⟩,⟨by (with_reducible repeat (first|refine bN ?_ _|refine bD ?_|refine bA ?_ _));exact Ba.out⟩,⟨by repeat (first|(with_reducible first|exact HB.out|apply oA|apply pN|apply o1|refine bS ?_ Bc.out)|exact HB.out)⟩⟩
     rw [if_pos c48] at H
     have c48b0:((wrap64 (x25_2 + 1)) == 2)=true:=beq_iff_eq.mpr c48
     have c48b1:((wrap64 (x25_2 + 1)) != 2)=false:=bne_eq_false_iff_eq.mpr c48
     clear c48
     by_cases c49:x25_2<(l0_1.length:Int)
     rotate_left
     ·rw [if_neg c49] at H
      exact absurd H (by simp)
     rw [if_pos c49] at H
     have c49b0:decide (x25_2<(l0_1.length:Int))=true:=dT c49
     clear c49
     obtain ⟨bq50,hbq50⟩:∃ b_:Bool,b_=(rdOf false l0_1 x25_2):=⟨_,rfl⟩
     replace H:(if bq50=true then (some false) else (some false))=some r:=by rw [← hbq50] at H;exact H
     have Nbq50:=Am hbq50
     clear hbq50
     by_cases c51:bq50=true
     ·subst c51
      have H1:(some false)=some r:=by rw [if_pos rfl] at H;exact H
      clear H
      have H:=H1
      clear H1
      obtain rfl:=oJ H
      have p195:0≤(x25_2:Int):=oE (by first|(with_reducible assumption)|assumption)
      have q195:x25_2<(l0_2.length:Int):=oE (by first|(with_reducible assumption)|assumption)
      obtain ⟨ad195,e195,hx195_0⟩:=Kd.at_int HR0_2.out x25_2 p195 q195
      cases e195
      replace hx195_0:=(bW HB hx195_0:)
      replace p195:=eq_true p195
      replace q195:=eq_true q195
      have DA:=cz0 Ba.out
      have DB:=cz1 Ba.out
      have DC:=cz2 Ba.out
      have DD:=bF Ba.out 0
      have DE:=bF Ba.out 1
      have DF:=bF Ba.out 2
      have p201:0≤(x25_2:Int):=oE (by first|(with_reducible assumption)|assumption)
      have q201:x25_2<(l0_1.length:Int):=oE (by first|(with_reducible assumption)|assumption)
      obtain ⟨ad201,e201,hx201_0⟩:=Kd.at_bool HR0_1.out x25_2 p201 q201
      (try rw [← Nbq50.out] at hx201_0)
      cases e201
      replace hx201_0:=(bW HB hx201_0:)
      replace p201:=eq_true p201
      replace q201:=eq_true q201
      go_wp2
      go_ret
      exact ⟨by first|rfl|(simp [errW_none,errW_some] <;> rfl)|(simp [*,errW_none,errW_some] <;> rfl),by repeat (first|(with_reducible first|exact HB.out|apply oA|apply pN|apply o1|refine bS ?_ Bc.out)|exact HB.out)⟩
     replace c51:=Bool.eq_false_iff.mpr c51
     subst c51
     have H1:(some false)=some r:=by rw [if_neg (show ¬ (false=true) by decide)] at H;exact H
     clear H
     have H:=H1
     clear H1
     obtain rfl:=oJ H
     have p195:0≤(x25_2:Int):=oE (by first|(with_reducible assumption)|assumption)
     have q195:x25_2<(l0_2.length:Int):=oE (by first|(with_reducible assumption)|assumption)
     obtain ⟨ad195,e195,hx195_0⟩:=Kd.at_int HR0_2.out x25_2 p195 q195
     cases e195
     replace hx195_0:=(bW HB hx195_0:)
     replace p195:=eq_true p195
     replace q195:=eq_true q195
     have DG:=cz0 Ba.out
     have DH:=cz1 Ba.out
     have DI:=cz2 Ba.out
     have DJ:=bF Ba.out 0
     have DK:=bF Ba.out 1
     have DL:=bF Ba.out 2
     have p201:0≤(x25_2:Int):=oE (by first|(with_reducible assumption)|assumption)
     have q201:x25_2<(l0_1.length:Int):=oE (by first|(with_reducible assumption)|assumption)
     obtain ⟨ad201,e201,hx201_0⟩:=Kd.at_bool HR0_1.out x25_2 p201 q201
     (try rw [← Nbq50.out] at hx201_0)
     cases e201
     replace hx201_0:=(bW HB hx201_0:)
     replace p201:=eq_true p201
     replace q201:=eq_true q201
     go_wp2
     go_ret
     exact ⟨by first|rfl|(simp [errW_none,errW_some] <;> rfl)|(simp [*,errW_none,errW_some] <;> rfl),by repeat (first|(with_reducible first|exact HB.out|apply oA|apply pN|apply o1|refine bS ?_ Bc.out)|exact HB.out)⟩
end Go.Proofs.Ytehekikjadjdaaa.PFnExactSigsRun
