/- Proved here, without a condition beyond those that each theorem states: what the Go functions named below do is what the plain functions of the same names say. Written by xprint.py, a program of this session. -/
import Derived.Test.YtpacdakadkblgaaPFnClockDropx0
import Derived.Test.YtpacdakadkblgaaPFnClockDropx1
namespace Go.Proofs.Ytpacdakadkblgaa.PFnClockDrop
open Go.RowKit Go.Proofs.YtpacdakadkblgaaW.PrintWords Go.Proofs.YtpacdakadkblgaaW.PrintLast Go.Proofs.YtpacdakadkblgaaW.PrintMore
attribute [local go_sem] max2_int min2_int max_two min_two max_three min_three max_four min_four   -- for this text's walks alone
set_option linter.unusedVariables false
set_option linter.unusedSimpArgs false

attribute [local go_sem ↓] isSome_setCell_
attribute [local go_sem high] eqA35
/-! ### laws_qdClock: function 7 -/
mutual
def laws_qdClock.j0 : Nat → Bool → Int → List (S35) → Int → List (S35) → Option (Bool)
|0, _, _, _, _, _ => none
|k + 1, x19, x264000, x264001, x265000, x265001 => if x19 = true then (some false) else (laws_qdClock.l0 k 0 x264000 x264001 x265000 x265001)
def laws_qdClock.l0 : Nat → Int → Int → List (S35) → Int → List (S35) → Option (Bool)
|0, _, _, _, _, _ => none
|k + 1, x5, x264000, x264001, x265000, x265001 => if x5 < (x264001.length : Int) then (if 0 ≤ x5 then (if x5 < (x265001.length : Int) then (if (!(((rd_T35 x264001 x5).f0) == ((rd_T35 x265001 x5).f0)) || (!(((rd_T35 x264001 x5).f1) == ((rd_T35 x265001 x5).f1)) || (!(((rd_T35 x264001 x5).f2) == ((rd_T35 x265001 x5).f2))))) = true then (some false) else (laws_qdClock.l0 k (wrap64 (x5 + 1)) x264000 x264001 x265000 x265001)) else (none)) else (none)) else (some true)
end
def laws_qdClock.f (k : Nat) (a0_0 : Int) (l0_1 : List (S35)) (a1_0 : Int) (l1_1 : List (S35)) : Option (Bool) := if a0_0 = a1_0 then (laws_qdClock.j0 k ((l0_1.length : Int) != (l1_1.length : Int)) a0_0 l0_1 a1_0 l1_1) else (laws_qdClock.j0 k true a0_0 l0_1 a1_0 l1_1)
theorem laws_qdClock.mono_l : ∀ k, (∀ y0 y1 y2 y3 y4, LeO (laws_qdClock.j0 k y0 y1 y2 y3 y4) (laws_qdClock.j0 (k + 1) y0 y1 y2 y3 y4)) ∧ (∀ y0 y1 y2 y3 y4, LeO (laws_qdClock.l0 k y0 y1 y2 y3 y4) (laws_qdClock.l0 (k + 1) y0 y1 y2 y3 y4))
|0 => ⟨fun _ _ _ _ _ r h => by simp [laws_qdClock.j0] at h, fun _ _ _ _ _ r h => by simp [laws_qdClock.l0] at h⟩
|k + 1 => by
  obtain ⟨ih0, ih1⟩ := laws_qdClock.mono_l k
  refine ⟨?_, ?_⟩
  ·intro y0 y1 y2 y3 y4
   unfold laws_qdClock.j0
   repeat' first
  |(with_reducible exact ih0 _ _ _ _ _)
  |(with_reducible exact ih1 _ _ _ _ _)
  |(with_reducible exact LeO.refl _)
  |(with_reducible exact LeO.none _)
  |(with_reducible refine LeO.ite ?_ ?_)
  |(with_reducible refine LeO.bind ?_ (fun _ => ?_))
  |exact ih0 _ _ _ _ _
  |exact ih1 _ _ _ _ _
  |exact LeO.none _
  |refine LeO.ite ?_ ?_
  |refine LeO.bind ?_ (fun _ => ?_)
  ·intro y0 y1 y2 y3 y4
   unfold laws_qdClock.l0
   repeat' first
  |(with_reducible exact ih0 _ _ _ _ _)
  |(with_reducible exact ih1 _ _ _ _ _)
  |(with_reducible exact LeO.refl _)
  |(with_reducible exact LeO.none _)
  |(with_reducible refine LeO.ite ?_ ?_)
  |(with_reducible refine LeO.bind ?_ (fun _ => ?_))
  |exact ih0 _ _ _ _ _
  |exact ih1 _ _ _ _ _
  |exact LeO.none _
  |refine LeO.ite ?_ ?_
  |refine LeO.bind ?_ (fun _ => ?_)
theorem laws_qdClock.mono : ∀ a0 a1 a2 a3 k, LeO (laws_qdClock.f k a0 a1 a2 a3) (laws_qdClock.f (k + 1) a0 a1 a2 a3) := by
 intro a0 a1 a2 a3 k
 obtain ⟨ih0, ih1⟩ := laws_qdClock.mono_l k
 unfold laws_qdClock.f
 repeat' first
  |(with_reducible exact ih0 _ _ _ _ _)
  |(with_reducible exact ih1 _ _ _ _ _)
  |(with_reducible exact LeO.refl _)
  |(with_reducible exact LeO.none _)
  |(with_reducible refine LeO.ite ?_ ?_)
  |(with_reducible refine LeO.bind ?_ (fun _ => ?_))
  |exact ih0 _ _ _ _ _
  |exact ih1 _ _ _ _ _
  |exact LeO.none _
  |refine LeO.ite ?_ ?_
  |refine LeO.bind ?_ (fun _ => ?_)
set_option maxHeartbeats 2000000 in
set_option maxRecDepth 100000 in
theorem laws_qdClock.calls (k:Nat) (a0_0:Int) (A0_1:Option Addr) (c0_1:Nat) (l0_1:List (S35)) (a1_0:Int) (A1_1:Option Addr) (c1_1:Nat) (l1_1:List (S35)) (r:Bool) (w:World) (hr0_1:Kd.C k35 w A0_1 l0_1.length l0_1) (hc0_1:l0_1.length≤c0_1) (hr1_1:Kd.C k35 w A1_1 l1_1.length l1_1) (hc1_1:l1_1.length≤c1_1) (h:laws_qdClock.f k a0_0 l0_1 a1_0 l1_1=some r) :
  Calls Try.prog 7 #[.agg #[.int .i64 a0_0,.slice A0_1 l0_1.length c0_1],.agg #[.int .i64 a1_0,.slice A1_1 l1_1.length c1_1]] w fun e w'=>e=.returned (.bool r)∧Below w.heap.size w w':=by
 have hu25:=Try.underlying25
 have hu35:=Try.underlying35
 have HR0_1:=Am hr0_1
 have HC0_1:=Am hc0_1
 clear hr0_1 hc0_1
 have HR1_1:=Am hr1_1
 have HC1_1:=Am hc1_1
 clear hr1_1 hc1_1
 have HB:=Am (bJ w.heap.size w)
 have H:(if a0_0=a1_0 then (laws_qdClock.j0 k ((l0_1.length:Int) != (l1_1.length:Int)) a0_0 l0_1 a1_0 l1_1) else (laws_qdClock.j0 k true a0_0 l0_1 a1_0 l1_1))=some r:=h
 clear h
 have HC3:=Am H
 clear H
 go_enter Try.func7,Try.ntmps7
 go_upto_region 1 with (first|((with_reducible refine gD (N:=2) rfl ?_);(try (refine gate_guard (by rfl) ?_;dsimp only));refine bI ?hg (N:=2) ?hd (cs:=#[.int .i64 a0_0,.slice A0_1 l0_1.length c0_1]) (t:=25) ?hr ?_;(case hd=>rfl);(case hg=>rfl);(case hr=>first|(go_simp;done)|(go_simp;rfl));intro Bb hg w4 hbox hb;have n0_:=Am (bP (by repeat (first|(with_reducible first|exact HB.out|apply oA|apply pN|apply o1)|exact HB.out)) hb);have n1_:=Am (hbox);have n2_:=Am ((by rw [hg];exact (bZ (by repeat (first|(with_reducible first|exact HB.out|apply oA|apply pN|apply o1)|exact HB.out))):w.heap.size≤Bb));have n3_:=Am ((by rw [hg];exact (bZ (by repeat (first|(with_reducible first|exact HB.out|apply oA|apply pN|apply o1)|exact HB.out))):w.heap.size≤Bb));clear HB;revert n0_ n1_ n2_ n3_;intro HB Ba By Be;clear hb hbox hg)|((with_reducible refine gD (N:=3) rfl ?_);(try (refine gate_guard (by rfl) ?_;dsimp only));refine bI ?hg (N:=3) ?hd (cs:=#[.int .i64 a1_0,.slice A1_1 l1_1.length c1_1]) (t:=25) ?hr ?_;(case hd=>rfl);(case hg=>rfl);(case hr=>first|(go_simp;done)|(go_simp;rfl));intro Bc hg w5 hbox hb;have n0_:=Am (bX Ba.out hb);have n1_:=Am (bP (by repeat (first|(with_reducible first|exact HB.out|apply oA|apply pN|apply o1|refine bS ?_ Be.out)|exact HB.out)) hb);have n2_:=Am (hbox);have n3_:=Am ((by rw [hg];exact (bZ (by repeat (first|(with_reducible first|exact HB.out|apply oA|apply pN|apply o1|refine bS ?_ Be.out)|exact HB.out))):w.heap.size≤Bc));have n4_:=Am ((by rw [hg];exact (bZ (by repeat (first|(with_reducible first|exact HB.out|apply oA|apply pN|apply o1|refine bS ?_ Be.out)|exact HB.out))):w.heap.size≤Bc));have n5_:=Am ((nL Ba.out hg));have n6_:=Am ((nG Ba.out hg));clear Ba HB;revert n0_ n1_ n2_ n3_ n4_ n5_ n6_;intro Ba HB Bd Bz Bh Bf Bg;clear hb hbox hg))
 repeat (go_quiet (first|((with_reducible refine gD (N:=2) rfl ?_);(try (refine gate_guard (by rfl) ?_;dsimp only));refine bI ?hg (N:=2) ?hd (cs:=#[.int .i64 a0_0,.slice A0_1 l0_1.length c0_1]) (t:=25) ?hr ?_;(case hd=>rfl);(case hg=>rfl);(case hr=>first|(go_simp;done)|(go_simp;rfl));intro Bb hg w4 hbox hb;have n0_:=Am (bP (by repeat (first|(with_reducible first|exact HB.out|apply oA|apply pN|apply o1)|exact HB.out)) hb);have n1_:=Am (hbox);have n2_:=Am ((by rw [hg];exact (bZ (by repeat (first|(with_reducible first|exact HB.out|apply oA|apply pN|apply o1)|exact HB.out))):w.heap.size≤Bb));have n3_:=Am ((by rw [hg];exact (bZ (by repeat (first|(with_reducible first|exact HB.out|apply oA|apply pN|apply o1)|exact HB.out))):w.heap.size≤Bb));clear HB;revert n0_ n1_ n2_ n3_;intro HB Ba By Be;clear hb hbox hg)|((with_reducible refine gD (N:=3) rfl ?_);(try (refine gate_guard (by rfl) ?_;dsimp only));refine bI ?hg (N:=3) ?hd (cs:=#[.int .i64 a1_0,.slice A1_1 l1_1.length c1_1]) (t:=25) ?hr ?_;(case hd=>rfl);(case hg=>rfl);(case hr=>first|(go_simp;done)|(go_simp;rfl));intro Bc hg w5 hbox hb;have n0_:=Am (bX Ba.out hb);have n1_:=Am (bP (by repeat (first|(with_reducible first|exact HB.out|apply oA|apply pN|apply o1|refine bS ?_ Be.out)|exact HB.out)) hb);have n2_:=Am (hbox);have n3_:=Am ((by rw [hg];exact (bZ (by repeat (first|(with_reducible first|exact HB.out|apply oA|apply pN|apply o1|refine bS ?_ Be.out)|exact HB.out))):w.heap.size≤Bc));have n4_:=Am ((by rw [hg];exact (bZ (by repeat (first|(with_reducible first|exact HB.out|apply oA|apply pN|apply o1|refine bS ?_ Be.out)|exact HB.out))):w.heap.size≤Bc));have n5_:=Am ((nL Ba.out hg));have n6_:=Am ((nG Ba.out hg));clear Ba HB;revert n0_ n1_ n2_ n3_ n4_ n5_ n6_;intro Ba HB Bd Bz Bh Bf Bg;clear hb hbox hg));go_upto_region 1 with (first|((with_reducible refine gD (N:=2) rfl ?_);(try (refine gate_guard (by rfl) ?_;dsimp only));refine bI ?hg (N:=2) ?hd (cs:=#[.int .i64 a0_0,.slice A0_1 l0_1.length c0_1]) (t:=25) ?hr ?_;(case hd=>rfl);(case hg=>rfl);(case hr=>first|(go_simp;done)|(go_simp;rfl));intro Bb hg w4 hbox hb;have n0_:=Am (bP (by repeat (first|(with_reducible first|exact HB.out|apply oA|apply pN|apply o1)|exact HB.out)) hb);have n1_:=Am (hbox);have n2_:=Am ((by rw [hg];exact (bZ (by repeat (first|(with_reducible first|exact HB.out|apply oA|apply pN|apply o1)|exact HB.out))):w.heap.size≤Bb));have n3_:=Am ((by rw [hg];exact (bZ (by repeat (first|(with_reducible first|exact HB.out|apply oA|apply pN|apply o1)|exact HB.out))):w.heap.size≤Bb));clear HB;revert n0_ n1_ n2_ n3_;intro HB Ba By Be;clear hb hbox hg)|((with_reducible refine gD (N:=3) rfl ?_);(try (refine gate_guard (by rfl) ?_;dsimp only));refine bI ?hg (N:=3) ?hd (cs:=#[.int .i64 a1_0,.slice A1_1 l1_1.length c1_1]) (t:=25) ?hr ?_;(case hd=>rfl);(case hg=>rfl);(case hr=>first|(go_simp;done)|(go_simp;rfl));intro Bc hg w5 hbox hb;have n0_:=Am (bX Ba.out hb);have n1_:=Am (bP (by repeat (first|(with_reducible first|exact HB.out|apply oA|apply pN|apply o1|refine bS ?_ Be.out)|exact HB.out)) hb);have n2_:=Am (hbox);have n3_:=Am ((by rw [hg];exact (bZ (by repeat (first|(with_reducible first|exact HB.out|apply oA|apply pN|apply o1|refine bS ?_ Be.out)|exact HB.out))):w.heap.size≤Bc));have n4_:=Am ((by rw [hg];exact (bZ (by repeat (first|(with_reducible first|exact HB.out|apply oA|apply pN|apply o1|refine bS ?_ Be.out)|exact HB.out))):w.heap.size≤Bc));have n5_:=Am ((nL Ba.out hg));have n6_:=Am ((nG Ba.out hg));clear Ba HB;revert n0_ n1_ n2_ n3_ n4_ n5_ n6_;intro Ba HB Bd Bz Bh Bf Bg;clear hb hbox hg)))
 (try simp only [Act.put,lA,lZ,lS])
 go_cut [19] (fun v19 wc=>∃ (kq:Nat) (x19_2:Bool),v19=.bool x19_2∧Aside0 (laws_qdClock.j0 kq x19_2 a0_0 l0_1 a1_0 l1_1=some r)∧Aside0 (kq≤k)∧Aside0 (wc.heap[Bb]?=some (.cells #[.int .i64 a0_0,(.slice A0_1 l0_1.length c0_1)] 25 (0,0)))∧Aside0 (wc.heap[Bc]?=some (.cells #[.int .i64 a1_0,(.slice A1_1 l1_1.length c1_1)] 25 (0,0)))∧Aside0 (Below w.heap.size w wc))
 case first =>
  have H:=HC3.out
  clear HC3
  by_cases c6:a0_0=a1_0
  rotate_left
  ·rw [if_neg c6] at H
   have c6b0:(a0_0 == a1_0)=false:=beq_eq_false_iff_ne.mpr c6
   have c6b1:(a0_0 != a1_0)=true:=bne_iff_ne.mpr c6
   (first|rw [c6b0]|(simp only [i64_w,i32_w];rw [c6b0])|skip)
   have H':=Am H
   clear H
   have BV:=Bf.out
   have BW:=Bg.out
   have Bi:=cz0 Ba.out
   have Bj:=cz1 Ba.out
   have Bk:=bF Ba.out 0
   have Bl:=bF Ba.out 1
   have Bm:=cz0 Bd.out
   have Bn:=cz1 Bd.out
   have Bo:=bF Bd.out 0
   have Bp:=bF Bd.out 1
   go_wp2
   repeat (go_quiet (fail);try go_wp2)
   go_meet
   case rel=>exact ⟨_,(true),(by first|rfl|(simp;done)|(simp [*];done)),H',⟨by first|omega|exact nR _⟩,⟨by (with_reducible repeat (first|refine bN ?_ _|refine bD ?_|refine bA ?_ _));exact Ba.out⟩,⟨by (with_reducible repeat (first|refine bN ?_ _|refine bD ?_|refine bA ?_ _));exact Bd.out⟩,⟨by repeat (first|(with_reducible first|exact HB.out|apply oA|apply pN|apply o1|refine bS ?_ Be.out|refine bS ?_ Bh.out)|exact HB.out)⟩⟩
  rw [if_pos c6] at H
  have c6b0:(a0_0 == a1_0)=true:=beq_iff_eq.mpr c6
  have c6b1:(a0_0 != a1_0)=false:=bne_eq_false_iff_eq.mpr c6
  clear c6
  (first|rw [c6b0]|(simp only [i64_w,i32_w];rw [c6b0])|skip)
  have H':=Am H
  clear H
  have B3:=Bf.out
  have B4:=Bg.out
  have Bq:=cz0 Ba.out
  have Br:=cz1 Ba.out
  have Bs:=bF Ba.out 0
  have Bt:=bF Ba.out 1
  have Bu:=cz0 Bd.out
  have Bv:=cz1 Bd.out
  have Bw:=bF Bd.out 0
  have Bx:=bF Bd.out 1
  go_wp2
  repeat (go_quiet (fail);try go_wp2)
  go_meet
  case rel=>exact ⟨_,(((l0_1.length:Int) != (l1_1.length:Int))),(by first|rfl|(simp;done)|(simp [*];done)),H',⟨by first|omega|exact nR _⟩,⟨by (with_reducible repeat (first|refine bN ?_ _|refine bD ?_|refine bA ?_ _));exact Ba.out⟩,⟨by (with_reducible repeat (first|refine bN ?_ _|refine bD ?_|refine bA ?_ _));exact Bd.out⟩,⟨by repeat (first|(with_reducible first|exact HB.out|apply oA|apply pN|apply o1|refine bS ?_ Be.out|refine bS ?_ Bh.out)|exact HB.out)⟩⟩
 case rest =>
  clear HC3
  try clear c1
  try clear p2
  try clear c6
  try clear c6b0
  try clear c6b1
  try clear c7
  try clear c10
  try clear Bi
  try clear Bj
  try clear Bm
  try clear Bn
  try clear Bq
  try clear Br
  try clear Bu
  try clear Bv
  try clear Bk
  try clear Bl
  try clear Bo
  try clear Bp
  try clear Bs
  try clear Bt
  try clear Bw
  try clear Bx
  obtain ⟨kq,x19_2,rfl,HA,BA,Ba,Bd,HB⟩:=hcut
  cases kq with
 |zero=>exact absurd HA.out (by simp [laws_qdClock.j0])
 |succ kj2 =>
   have H:=HA.out
   clear HA
   simp only [laws_qdClock.j0] at H
   by_cases c13:x19_2=true
   ·subst c13
    have H1:(some false)=some r:=by rw [if_pos rfl] at H;exact H
    clear H
    have H:=H1
    clear H1
    obtain rfl:=oJ H
    go_wp2
    repeat (go_quiet (fail);try go_wp2)
    go_ret
    exact ⟨by first|rfl|(simp [errW_none,errW_some] <;> rfl)|(simp [*,errW_none,errW_some] <;> rfl),by repeat (first|(with_reducible first|exact HB.out|apply oA|apply pN|apply o1|refine bS ?_ Be.out|refine bS ?_ Bh.out)|exact HB.out)⟩
   replace c13:=Bool.eq_false_iff.mpr c13
   subst c13
   have H1:(laws_qdClock.l0 kj2 0 a0_0 l0_1 a1_0 l1_1)=some r:=by rw [if_neg (show ¬ (false=true) by decide)] at H;exact H
   clear H
   have H:=H1
   clear H1
   have H':=Am H
   clear H
   go_wp2
   repeat (go_quiet (fail);try go_wp2)
   go_loopg [5] kj2 (fun kq v5 w'=>∃ (x5_2:Int),v5=.int .i64 x5_2∧Aside0 (laws_qdClock.l0 kq x5_2 a0_0 l0_1 a1_0 l1_1=some r)∧Aside0 (kq≤kj2)∧Aside0 (w'.heap[Bb]?=some (.cells #[.int .i64 a0_0,(.slice A0_1 l0_1.length c0_1)] 25 (0,0)))∧Aside0 (w'.heap[Bc]?=some (.cells #[.int .i64 a1_0,(.slice A1_1 l1_1.length c1_1)] 25 (0,0)))∧Aside0 (Below w.heap.size w w'))
   case atStart=>exact ⟨(0),(by first|rfl|(simp;done)|(simp [*];done)),H',⟨nR _⟩,⟨by (with_reducible repeat (first|refine bN ?_ _|refine bD ?_|refine bA ?_ _));exact Ba.out⟩,⟨by (with_reducible repeat (first|refine bN ?_ _|refine bD ?_|refine bA ?_ _));exact Bd.out⟩,⟨by repeat (first|(with_reducible first|exact HB.out|apply oA|apply pN|apply o1|refine bS ?_ Be.out|refine bS ?_ Bh.out)|exact HB.out)⟩⟩
   case round =>
    clear H'
    try clear c1
    try clear p2
    try clear c6
    try clear c6b0
    try clear c6b1
    try clear c7
    try clear c10
    try clear c13
    try clear Bi
    try clear Bj
    try clear Bm
    try clear Bn
    try clear Bq
    try clear Br
    try clear Bu
    try clear Bv
    try clear Bk
    try clear Bl
    try clear Bo
    try clear Bp
    try clear Bs
    try clear Bt
    try clear Bw
    try clear Bx
    try clear p2
    obtain ⟨x5_2,rfl,HA,HK2,Ba,Bd,HB⟩:=hrel
    cases gk with
   |zero=>exact absurd HA.out (by simp [laws_qdClock.l0])
   |succ k2 =>
     have H:=HA.out
     clear HA
     simp only [laws_qdClock.l0] at H
     by_cases c14:x5_2<(l0_1.length:Int)
     rotate_left
     ·rw [if_neg c14] at H
      have c14b0:decide (x5_2<(l0_1.length:Int))=false:=dF c14
      clear c14
      obtain rfl:=oJ H
      have B1:=Bf.out
      have B2:=Bg.out
      have BR:=cz0 Ba.out
      have BS:=cz1 Ba.out
      have BT:=bF Ba.out 0
      have BU:=bF Ba.out 1
      go_wp2
      repeat (go_quiet (fail);try go_wp2)
      go_ret
      exact ⟨by first|rfl|(simp [errW_none,errW_some] <;> rfl)|(simp [*,errW_none,errW_some] <;> rfl),by repeat (first|(with_reducible first|exact HB.out|apply oA|apply pN|apply o1|refine bS ?_ Be.out|refine bS ?_ Bh.out)|exact HB.out)⟩


     rw [if_pos c14] at H
     have c14b0:decide (x5_2<(l0_1.length:Int))=true:=dT c14
     clear c14
     by_cases c15:0≤x5_2
     rotate_left
     ·rw [if_neg c15] at H
      exact absurd H (by simp)
     rw [if_pos c15] at H
     have c15b0:decide (0≤x5_2)=true:=dT c15
     clear c15
     by_cases c16:x5_2<(l1_1.length:Int)
     rotate_left
     ·rw [if_neg c16] at H
      exact absurd H (by simp)
     rw [if_pos c16] at H
     have c16b0:decide (x5_2<(l1_1.length:Int))=true:=dT c16
     clear c16
     by_cases c17:(!(((rd_T35 l0_1 x5_2).f0) == ((rd_T35 l1_1 x5_2).f0)) || (!(((rd_T35 l0_1 x5_2).f1) == ((rd_T35 l1_1 x5_2).f1)) || (!(((rd_T35 l0_1 x5_2).f2) == ((rd_T35 l1_1 x5_2).f2)))))=true
     ·rw [if_pos c17] at H
      have c17b0:(!(((rd_T35 l0_1 x5_2).f0) == ((rd_T35 l1_1 x5_2).f0)) || (!(((rd_T35 l0_1 x5_2).f1) == ((rd_T35 l1_1 x5_2).f1)) || (!(((rd_T35 l0_1 x5_2).f2) == ((rd_T35 l1_1 x5_2).f2)))))=true:=c17
      clear c17
      obtain rfl:=oJ H
      have BX:=Bf.out
      have BY:=Bg.out
      have BB:=cz0 Ba.out
      have BC:=cz1 Ba.out
      have BD:=bF Ba.out 0
      have BE:=bF Ba.out 1
      have p265:0≤(x5_2:Int):=oE (by first|(with_reducible assumption)|assumption)
      have q265:x5_2<(l0_1.length:Int):=oE (by first|(with_reducible assumption)|assumption)
      obtain ⟨ad265,e265,hx265_0,hx265_1,hx265_2⟩:=at_T35 HR0_1.out x5_2 p265 q265
      cases e265
      replace hx265_0:=(bW HB hx265_0:)
      replace hx265_1:=(bW HB hx265_1:)
      replace hx265_2:=(bW HB hx265_2:)
      replace p265:=eq_true p265
      replace q265:=eq_true q265
      have BF:=cz0 Bd.out
      have BG:=cz1 Bd.out
      have BH:=bF Bd.out 0
      have BI:=bF Bd.out 1
      have p266:0≤(x5_2:Int):=oE (by first|(with_reducible assumption)|assumption)
      have q266:x5_2<(l1_1.length:Int):=oE (by first|(with_reducible assumption)|assumption)
      obtain ⟨ad266,e266,hx266_0,hx266_1,hx266_2⟩:=at_T35 HR1_1.out x5_2 p266 q266
      cases e266
      replace hx266_0:=(bW HB hx266_0:)
      replace hx266_1:=(bW HB hx266_1:)
      replace hx266_2:=(bW HB hx266_2:)
      replace p266:=eq_true p266
      replace q266:=eq_true q266
      go_wp2
      repeat (go_quiet (fail);try go_wp2)
      go_ret
      exact ⟨by first|rfl|(simp [errW_none,errW_some] <;> rfl)|(simp [*,errW_none,errW_some] <;> rfl),by repeat (first|(with_reducible first|exact HB.out|apply oA|apply pN|apply o1|refine bS ?_ Be.out|refine bS ?_ Bh.out)|exact HB.out)⟩
     rw [if_neg c17] at H
     have c17b0:(!(((rd_T35 l0_1 x5_2).f0) == ((rd_T35 l1_1 x5_2).f0)) || (!(((rd_T35 l0_1 x5_2).f1) == ((rd_T35 l1_1 x5_2).f1)) || (!(((rd_T35 l0_1 x5_2).f2) == ((rd_T35 l1_1 x5_2).f2)))))=false:=by simpa using c17
     clear c17
     have H':=Am H
     clear H
     have BZ:=Bf.out
     have B0:=Bg.out
     have BJ:=cz0 Ba.out
     have BK:=cz1 Ba.out
     have BL:=bF Ba.out 0
     have BM:=bF Ba.out 1
     have p265:0≤(x5_2:Int):=oE (by first|(with_reducible assumption)|assumption)
     have q265:x5_2<(l0_1.length:Int):=oE (by first|(with_reducible assumption)|assumption)
     obtain ⟨ad265,e265,hx265_0,hx265_1,hx265_2⟩:=at_T35 HR0_1.out x5_2 p265 q265
     cases e265
     replace hx265_0:=(bW HB hx265_0:)
     replace hx265_1:=(bW HB hx265_1:)
     replace hx265_2:=(bW HB hx265_2:)
     replace p265:=eq_true p265
     replace q265:=eq_true q265
     have BN:=cz0 Bd.out
     have BO:=cz1 Bd.out
     have BP:=bF Bd.out 0
     have BQ:=bF Bd.out 1
     have p266:0≤(x5_2:Int):=oE (by first|(with_reducible assumption)|assumption)
     have q266:x5_2<(l1_1.length:Int):=oE (by first|(with_reducible assumption)|assumption)
     obtain ⟨ad266,e266,hx266_0,hx266_1,hx266_2⟩:=at_T35 HR1_1.out x5_2 p266 q266
     cases e266
     replace hx266_0:=(bW HB hx266_0:)
     replace hx266_1:=(bW HB hx266_1:)
     replace hx266_2:=(bW HB hx266_2:)
     replace p266:=eq_true p266
     replace q266:=eq_true q266
     go_wp2
     repeat (go_quiet (fail);try go_wp2)
     go_roundg k2
     case measure=>have:=BA.out;have:=HK2.out;omega
     case rel=>exact ⟨(wrap64 (x5_2 + 1)),(by first|rfl|(simp;done)|(simp [*];done)),H',⟨by have:=BA.out;have:=HK2.out;omega⟩,⟨by (with_reducible repeat (first|refine bN ?_ _|refine bD ?_|refine bA ?_ _));exact Ba.out⟩,⟨by (with_reducible repeat (first|refine bN ?_ _|refine bD ?_|refine bA ?_ _));exact Bd.out⟩,⟨by repeat (first|(with_reducible first|exact HB.out|apply oA|apply pN|apply o1|refine bS ?_ Be.out|refine bS ?_ Bh.out)|exact HB.out)⟩⟩/-! ### impl_ClockTick: function 8 -/


/-! ### impl_ClockSet: function 9 -/


end Go.Proofs.Ytpacdakadkblgaa.PFnClockDrop
