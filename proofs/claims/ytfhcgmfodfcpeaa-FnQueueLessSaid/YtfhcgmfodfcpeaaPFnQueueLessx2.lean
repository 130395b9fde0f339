/- Proved here, without a condition beyond those that each theorem states: what the Go functions named below do is what the plain functions of the same names say. Written by xprint.py, a program of this session. -/
import Derived.Test.YtfhcgmfodfcpeaaPFnQueueLessx0
import Derived.Test.YtfhcgmfodfcpeaaPFnQueueLessx1
namespace Go.Proofs.Ytfhcgmfodfcpeaa.PFnQueueLess
open Go.RowKit Go.Proofs.YtfhcgmfodfcpeaaW.PrintWords Go.Proofs.YtfhcgmfodfcpeaaW.PrintLast Go.Proofs.YtfhcgmfodfcpeaaW.PrintMore
attribute [local go_sem] max2_int min2_int max_two min_two max_three min_three max_four min_four   -- for this text's walks alone
set_option linter.unusedVariables false
set_option linter.unusedSimpArgs false

attribute [local go_sem ↓] isSome_setCell_
attribute [local go_sem high] eqA40
/-! ### laws_qdQueue: function 15 -/
mutual
def laws_qdQueue.j0 : Nat → Bool → List (S40) → Int → List (S40) → Int → Option (Bool)
|0, _, _, _, _, _ => none
|k + 1, x19, x102000, x102001, x103000, x103001 => if x19 = true then (some false) else (laws_qdQueue.l0 k 0 x102000 x102001 x103000 x103001)
def laws_qdQueue.l0 : Nat → Int → List (S40) → Int → List (S40) → Int → Option (Bool)
|0, _, _, _, _, _ => none
|k + 1, x5, x102000, x102001, x103000, x103001 => if x5 < (x102000.length : Int) then (if 0 ≤ x5 then (if x5 < (x103000.length : Int) then (if (!(((rd_T40 x102000 x5).f0) == ((rd_T40 x103000 x5).f0)) || (!(((rd_T40 x102000 x5).f1) == ((rd_T40 x103000 x5).f1)) || (!(((rd_T40 x102000 x5).f2) == ((rd_T40 x103000 x5).f2)) || (!(((rd_T40 x102000 x5).f3) == ((rd_T40 x103000 x5).f3)))))) = true then (some false) else (laws_qdQueue.l0 k (wrap64 (x5 + 1)) x102000 x102001 x103000 x103001)) else (none)) else (none)) else (some true)
end
def laws_qdQueue.f (k : Nat) (l0_0 : List (S40)) (a0_1 : Int) (l1_0 : List (S40)) (a1_1 : Int) : Option (Bool) := if a0_1 = a1_1 then (laws_qdQueue.j0 k ((l0_0.length : Int) != (l1_0.length : Int)) l0_0 a0_1 l1_0 a1_1) else (laws_qdQueue.j0 k true l0_0 a0_1 l1_0 a1_1)
theorem laws_qdQueue.mono_l : ∀ k, (∀ y0 y1 y2 y3 y4, LeO (laws_qdQueue.j0 k y0 y1 y2 y3 y4) (laws_qdQueue.j0 (k + 1) y0 y1 y2 y3 y4)) ∧ (∀ y0 y1 y2 y3 y4, LeO (laws_qdQueue.l0 k y0 y1 y2 y3 y4) (laws_qdQueue.l0 (k + 1) y0 y1 y2 y3 y4))
|0 => ⟨fun _ _ _ _ _ r h => by simp [laws_qdQueue.j0] at h, fun _ _ _ _ _ r h => by simp [laws_qdQueue.l0] at h⟩
|k + 1 => by
  obtain ⟨ih0, ih1⟩ := laws_qdQueue.mono_l k
  refine ⟨?_, ?_⟩
  ·intro y0 y1 y2 y3 y4
   unfold laws_qdQueue.j0
   repeat' first
  |(with_reducible exact ih0 _ _ _ _ _)
  |(with_reducible exact ih1 _ _ _ _ _)
  |(with_reducible exact LeO.refl _)
  |(with_reducible exact LeO.none _)
  |(with_reducible refine LeO.ite ?_ ?_)
  |(with_reducible refine LeO.bind ?_ (fun _ => ?_))
  |exact ih0 _ _ _ _ _
  |exact ih1 _ _ _ _ _
  |exact LeO.none _
  |refine LeO.ite ?_ ?_
  |refine LeO.bind ?_ (fun _ => ?_)
  ·intro y0 y1 y2 y3 y4
   unfold laws_qdQueue.l0
   repeat' first
  |(with_reducible exact ih0 _ _ _ _ _)
  |(with_reducible exact ih1 _ _ _ _ _)
  |(with_reducible exact LeO.refl _)
  |(with_reducible exact LeO.none _)
  |(with_reducible refine LeO.ite ?_ ?_)
  |(with_reducible refine LeO.bind ?_ (fun _ => ?_))
  |exact ih0 _ _ _ _ _
  |exact ih1 _ _ _ _ _
  |exact LeO.none _
  |refine LeO.ite ?_ ?_
  |refine LeO.bind ?_ (fun _ => ?_)
theorem laws_qdQueue.mono : ∀ a0 a1 a2 a3 k, LeO (laws_qdQueue.f k a0 a1 a2 a3) (laws_qdQueue.f (k + 1) a0 a1 a2 a3) := by
 intro a0 a1 a2 a3 k
 obtain ⟨ih0, ih1⟩ := laws_qdQueue.mono_l k
 unfold laws_qdQueue.f
 repeat' first
  |(with_reducible exact ih0 _ _ _ _ _)
  |(with_reducible exact ih1 _ _ _ _ _)
  |(with_reducible exact LeO.refl _)
  |(with_reducible exact LeO.none _)
  |(with_reducible refine LeO.ite ?_ ?_)
  |(with_reducible refine LeO.bind ?_ (fun _ => ?_))
  |exact ih0 _ _ _ _ _
  |exact ih1 _ _ _ _ _
  |exact LeO.none _
  |refine LeO.ite ?_ ?_
  |refine LeO.bind ?_ (fun _ => ?_)
set_option maxHeartbeats 2000000 in
set_option maxRecDepth 100000 in
theorem laws_qdQueue.calls (k:Nat) (A0_0:Option Addr) (c0_0:Nat) (l0_0:List (S40)) (a0_1:Int) (A1_0:Option Addr) (c1_0:Nat) (l1_0:List (S40)) (a1_1:Int) (r:Bool) (w:World) (hr0_0:Kd.C k40 w A0_0 l0_0.length l0_0) (hc0_0:l0_0.length≤c0_0) (hr1_0:Kd.C k40 w A1_0 l1_0.length l1_0) (hc1_0:l1_0.length≤c1_0) (h:laws_qdQueue.f k l0_0 a0_1 l1_0 a1_1=some r) :
  Calls Try.prog 15 #[.agg #[.slice A0_0 l0_0.length c0_0,.int .i64 a0_1],.agg #[.slice A1_0 l1_0.length c1_0,.int .i64 a1_1]] w fun e w'=>e=.returned (.bool r)∧Below w.heap.size w w':=by
 have hu25:=Try.underlying25
 have hu40:=Try.underlying40
 have HR0_0:=Am hr0_0
 have HC0_0:=Am hc0_0
 clear hr0_0 hc0_0
 have HR1_0:=Am hr1_0
 have HC1_0:=Am hc1_0
 clear hr1_0 hc1_0
 have HB:=Am (Below.refl w.heap.size w)
 have H:(if a0_1=a1_1 then (laws_qdQueue.j0 k ((l0_0.length:Int) != (l1_0.length:Int)) l0_0 a0_1 l1_0 a1_1) else (laws_qdQueue.j0 k true l0_0 a0_1 l1_0 a1_1))=some r:=h
 clear h
 have HC3:=Am H
 clear H
 go_enter Try.func15,Try.ntmps15
 go_upto_region 1 with (first|((with_reducible refine gate_dst (N:=2) rfl ?_);(try (refine gate_guard (by rfl) ?_;dsimp only));refine box_event ?hg (N:=2) ?hd (cs:=#[.slice A0_0 l0_0.length c0_0,.int .i64 a0_1]) (t:=25) ?hr ?_;(case hd=>rfl);(case hg=>rfl);(case hr=>first|(go_simp;done)|(go_simp;rfl));intro Bb hg w4 hbox hb;have n0_:=Am (bP (by repeat (first|(with_reducible first|exact HB.out|apply oA|apply pN|apply o1)|exact HB.out)) hb);have n1_:=Am (hbox);have n2_:=Am ((by rw [hg];exact (bZ (by repeat (first|(with_reducible first|exact HB.out|apply oA|apply pN|apply o1)|exact HB.out))):w.heap.size≤Bb));have n3_:=Am ((by rw [hg];exact (bZ (by repeat (first|(with_reducible first|exact HB.out|apply oA|apply pN|apply o1)|exact HB.out))):w.heap.size≤Bb));clear HB;revert n0_ n1_ n2_ n3_;intro HB Ba By Be;clear hb hbox hg)|((with_reducible refine gate_dst (N:=3) rfl ?_);(try (refine gate_guard (by rfl) ?_;dsimp only));refine box_event ?hg (N:=3) ?hd (cs:=#[.slice A1_0 l1_0.length c1_0,.int .i64 a1_1]) (t:=25) ?hr ?_;(case hd=>rfl);(case hg=>rfl);(case hr=>first|(go_simp;done)|(go_simp;rfl));intro Bc hg w5 hbox hb;have n0_:=Am (bX Ba.out hb);have n1_:=Am (bP (by repeat (first|(with_reducible first|exact HB.out|apply oA|apply pN|apply o1|refine bS ?_ Be.out)|exact HB.out)) hb);have n2_:=Am (hbox);have n3_:=Am ((by rw [hg];exact (bZ (by repeat (first|(with_reducible first|exact HB.out|apply oA|apply pN|apply o1|refine bS ?_ Be.out)|exact HB.out))):w.heap.size≤Bc));have n4_:=Am ((by rw [hg];exact (bZ (by repeat (first|(with_reducible first|exact HB.out|apply oA|apply pN|apply o1|refine bS ?_ Be.out)|exact HB.out))):w.heap.size≤Bc));have n5_:=Am ((nL Ba.out hg));have n6_:=Am ((nG Ba.out hg));clear Ba HB;revert n0_ n1_ n2_ n3_ n4_ n5_ n6_;intro Ba HB Bd Bz Bh Bf Bg;clear hb hbox hg))
 repeat (go_quiet (first|((with_reducible refine gate_dst (N:=2) rfl ?_);(try (refine gate_guard (by rfl) ?_;dsimp only));refine box_event ?hg (N:=2) ?hd (cs:=#[.slice A0_0 l0_0.length c0_0,.int .i64 a0_1]) (t:=25) ?hr ?_;(case hd=>rfl);(case hg=>rfl);(case hr=>first|(go_simp;done)|(go_simp;rfl));intro Bb hg w4 hbox hb;have n0_:=Am (bP (by repeat (first|(with_reducible first|exact HB.out|apply oA|apply pN|apply o1)|exact HB.out)) hb);have n1_:=Am (hbox);have n2_:=Am ((by rw [hg];exact (bZ (by repeat (first|(with_reducible first|exact HB.out|apply oA|apply pN|apply o1)|exact HB.out))):w.heap.size≤Bb));have n3_:=Am ((by rw [hg];exact (bZ (by repeat (first|(with_reducible first|exact HB.out|apply oA|apply pN|apply o1)|exact HB.out))):w.heap.size≤Bb));clear HB;revert n0_ n1_ n2_ n3_;intro HB Ba By Be;clear hb hbox hg)|((with_reducible refine gate_dst (N:=3) rfl ?_);(try (refine gate_guard (by rfl) ?_;dsimp only));refine box_event ?hg (N:=3) ?hd (cs:=#[.slice A1_0 l1_0.length c1_0,.int .i64 a1_1]) (t:=25) ?hr ?_;(case hd=>rfl);(case hg=>rfl);(case hr=>first|(go_simp;done)|(go_simp;rfl));intro Bc hg w5 hbox hb;have n0_:=Am (bX Ba.out hb);have n1_:=Am (bP (by repeat (first|(with_reducible first|exact HB.out|apply oA|apply pN|apply o1|refine bS ?_ Be.out)|exact HB.out)) hb);have n2_:=Am (hbox);have n3_:=Am ((by rw [hg];exact (bZ (by repeat (first|(with_reducible first|exact HB.out|apply oA|apply pN|apply o1|refine bS ?_ Be.out)|exact HB.out))):w.heap.size≤Bc));have n4_:=Am ((by rw [hg];exact (bZ (by repeat (first|(with_reducible first|exact HB.out|apply oA|apply pN|apply o1|refine bS ?_ Be.out)|exact HB.out))):w.heap.size≤Bc));have n5_:=Am ((nL Ba.out hg));have n6_:=Am ((nG Ba.out hg));clear Ba HB;revert n0_ n1_ n2_ n3_ n4_ n5_ n6_;intro Ba HB Bd Bz Bh Bf Bg;clear hb hbox hg));go_upto_region 1 with (first|((with_reducible refine gate_dst (N:=2) rfl ?_);(try (refine gate_guard (by rfl) ?_;dsimp only));refine box_event ?hg (N:=2) ?hd (cs:=#[.slice A0_0 l0_0.length c0_0,.int .i64 a0_1]) (t:=25) ?hr ?_;(case hd=>rfl);(case hg=>rfl);(case hr=>first|(go_simp;done)|(go_simp;rfl));intro Bb hg w4 hbox hb;have n0_:=Am (bP (by repeat (first|(with_reducible first|exact HB.out|apply oA|apply pN|apply o1)|exact HB.out)) hb);have n1_:=Am (hbox);have n2_:=Am ((by rw [hg];exact (bZ (by repeat (first|(with_reducible first|exact HB.out|apply oA|apply pN|apply o1)|exact HB.out))):w.heap.size≤Bb));have n3_:=Am ((by rw [hg];exact (bZ (by repeat (first|(with_reducible first|exact HB.out|apply oA|apply pN|apply o1)|exact HB.out))):w.heap.size≤Bb));clear HB;revert n0_ n1_ n2_ n3_;intro HB Ba By Be;clear hb hbox hg)|((with_reducible refine gate_dst (N:=3) rfl ?_);(try (refine gate_guard (by rfl) ?_;dsimp only));refine box_event ?hg (N:=3) ?hd (cs:=#[.slice A1_0 l1_0.length c1_0,.int .i64 a1_1]) (t:=25) ?hr ?_;(case hd=>rfl);(case hg=>rfl);(case hr=>first|(go_simp;done)|(go_simp;rfl));intro Bc hg w5 hbox hb;have n0_:=Am (bX Ba.out hb);have n1_:=Am (bP (by repeat (first|(with_reducible first|exact HB.out|apply oA|apply pN|apply o1|refine bS ?_ Be.out)|exact HB.out)) hb);have n2_:=Am (hbox);have n3_:=Am ((by rw [hg];exact (bZ (by repeat (first|(with_reducible first|exact HB.out|apply oA|apply pN|apply o1|refine bS ?_ Be.out)|exact HB.out))):w.heap.size≤Bc));have n4_:=Am ((by rw [hg];exact (bZ (by repeat (first|(with_reducible first|exact HB.out|apply oA|apply pN|apply o1|refine bS ?_ Be.out)|exact HB.out))):w.heap.size≤Bc));have n5_:=Am ((nL Ba.out hg));have n6_:=Am ((nG Ba.out hg));clear Ba HB;revert n0_ n1_ n2_ n3_ n4_ n5_ n6_;intro Ba HB Bd Bz Bh Bf Bg;clear hb hbox hg)))
 (try simp only [Act.put,lA,lZ,lS])
 go_cut [19] (fun v19 wc=>∃ (kq:Nat) (x19_2:Bool),v19=.bool x19_2∧Aside0 (laws_qdQueue.j0 kq x19_2 l0_0 a0_1 l1_0 a1_1=some r)∧Aside0 (kq≤k)∧Aside0 (wc.heap[Bb]?=some (.cells #[(.slice A0_0 l0_0.length c0_0),.int .i64 a0_1] 25 (0,0)))∧Aside0 (wc.heap[Bc]?=some (.cells #[(.slice A1_0 l1_0.length c1_0),.int .i64 a1_1] 25 (0,0)))∧Aside0 (Below w.heap.size w wc))
 case first =>
  have H:=HC3.out
  clear HC3
  by_cases c6:a0_1=a1_1
  rotate_left
  ·rw [if_neg c6] at H
   have c6b0:(a0_1 == a1_1)=false:=beq_eq_false_iff_ne.mpr c6
   have c6b1:(a0_1 != a1_1)=true:=bne_iff_ne.mpr c6
   (first|rw [c6b0]|(simp only [i64_w,i32_w];rw [c6b0])|skip)
   have H':=Am H
   clear H
   have BV:=Bf.out
   have BW:=Bg.out
   have Bi:=cz0 Ba.out
   have Bj:=cz1 Ba.out
   have Bk:=bF Ba.out 0
   have Bl:=bF Ba.out 1
   have Bm:=cz0 Bd.out
   have Bn:=cz1 Bd.out
   have Bo:=bF Bd.out 0
   have Bp:=bF Bd.out 1
   go_wp2
   repeat (go_quiet (fail);try go_wp2)
   go_meet
   case rel=>exact ⟨_,(true),(by first|rfl|(simp;done)|(simp [*];done)),H',⟨by first|omega|exact Nat.le_refl _⟩,⟨by (with_reducible repeat (first|refine bN ?_ _|refine bD ?_|refine bA ?_ _));exact Ba.out⟩,⟨by (with_reducible repeat (first|refine bN ?_ _|refine bD ?_|refine bA ?_ _));exact Bd.out⟩,⟨by repeat (first|(with_reducible first|exact HB.out|apply oA|apply pN|apply o1|refine bS ?_ Be.out|refine bS ?_ Bh.out)|exact HB.out)⟩⟩
  rw [if_pos c6] at H
  have c6b0:(a0_1 == a1_1)=true:=beq_iff_eq.mpr c6
  have c6b1:(a0_1 != a1_1)=false:=bne_eq_false_iff_eq.mpr c6
  clear c6
  (first|rw [c6b0]|(simp only [i64_w,i32_w];rw [c6b0])|skip)
  have H':=Am H
  clear H
  have B3:=Bf.out
  have B4:=Bg.out
  have Bq:=cz0 Ba.out
  have Br:=cz1 Ba.out
  have Bs:=bF Ba.out 0
  have Bt:=bF Ba.out 1
  have Bu:=cz0 Bd.out
  have Bv:=cz1 Bd.out
  have Bw:=bF Bd.out 0
  have Bx:=bF Bd.out 1
  go_wp2
  repeat (go_quiet (fail);try go_wp2)
  go_meet
  case rel=>exact ⟨_,(((l0_0.length:Int) != (l1_0.length:Int))),(by first|rfl|(simp;done)|(simp [*];done)),H',⟨by first|omega|exact Nat.le_refl _⟩,⟨by (with_reducible repeat (first|refine bN ?_ _|refine bD ?_|refine bA ?_ _));exact Ba.out⟩,⟨by (with_reducible repeat (first|refine bN ?_ _|refine bD ?_|refine bA ?_ _));exact Bd.out⟩,⟨by repeat (first|(with_reducible first|exact HB.out|apply oA|apply pN|apply o1|refine bS ?_ Be.out|refine bS ?_ Bh.out)|exact HB.out)⟩⟩
 case rest =>
  clear HC3
  try clear c1
  try clear p2
  try clear c6
  try clear c6b0
  try clear c6b1
  try clear c7
  try clear c10
  try clear Bi
  try clear Bj
  try clear Bm
  try clear Bn
  try clear Bq
  try clear Br
  try clear Bu
  try clear Bv
  try clear Bk
  try clear Bl
  try clear Bo
  try clear Bp
  try clear Bs
  try clear Bt
  try clear Bw
  try clear Bx
  obtain ⟨kq,x19_2,rfl,HA,BA,Ba,Bd,HB⟩:=hcut
  cases kq with
 |zero=>exact absurd HA.out (by simp [laws_qdQueue.j0])
 |succ kj2 =>
   have H:=HA.out
   clear HA
   simp only [laws_qdQueue.j0] at H
   by_cases c13:x19_2=true
   ·subst c13
    have H1:(some false)=some r:=by rw [if_pos rfl] at H;exact H
    clear H
    have H:=H1
    clear H1
    obtain rfl:=Option.some.inj H
    go_wp2
    repeat (go_quiet (fail);try go_wp2)
    go_ret
    exact ⟨by first|rfl|(simp [errW_none,errW_some] <;> rfl)|(simp [*,errW_none,errW_some] <;> rfl),by repeat (first|(with_reducible first|exact HB.out|apply oA|apply pN|apply o1|refine bS ?_ Be.out|refine bS ?_ Bh.out)|exact HB.out)⟩
   replace c13:=Bool.eq_false_iff.mpr c13
   subst c13
   have H1:(laws_qdQueue.l0 kj2 0 l0_0 a0_1 l1_0 a1_1)=some r:=by rw [if_neg (show ¬ (false=true) by decide)] at H;exact H
   clear H
   have H:=H1
   clear H1
   have H':=Am H
   clear H
   go_wp2
   repeat (go_quiet (fail);try go_wp2)
   go_loopg [5] kj2 (fun kq v5 w'=>∃ (x5_2:Int),v5=.int .i64 x5_2∧Aside0 (laws_qdQueue.l0 kq x5_2 l0_0 a0_1 l1_0 a1_1=some r)∧Aside0 (kq≤kj2)∧Aside0 (w'.heap[Bb]?=some (.cells #[(.slice A0_0 l0_0.length c0_0),.int .i64 a0_1] 25 (0,0)))∧Aside0 (w'.heap[Bc]?=some (.cells #[(.slice A1_0 l1_0.length c1_0),.int .i64 a1_1] 25 (0,0)))∧Aside0 (Below w.heap.size w w'))
   case atStart=>exact ⟨(0),(by first|rfl|(simp;done)|(simp [*];done)),H',⟨Nat.le_refl _⟩,⟨by (with_reducible repeat (first|refine bN ?_ _|refine bD ?_|refine bA ?_ _));exact Ba.out⟩,⟨by (with_reducible repeat (first|refine bN ?_ _|refine bD ?_|refine bA ?_ _));exact Bd.out⟩,⟨by repeat (first|(with_reducible first|exact HB.out|apply oA|apply pN|apply o1|refine bS ?_ Be.out|refine bS ?_ Bh.out)|exact HB.out)⟩⟩
   case round =>
    clear H'
    try clear c1
    try clear p2
    try clear c6
    try clear c6b0
    try clear c6b1
    try clear c7
    try clear c10
    try clear c13
    try clear Bi
    try clear Bj
    try clear Bm
    try clear Bn
    try clear Bq
    try clear Br
    try clear Bu
    try clear Bv
    try clear Bk
    try clear Bl
    try clear Bo
    try clear Bp
    try clear Bs
    try clear Bt
    try clear Bw
    try clear Bx
    try clear p2
    obtain ⟨x5_2,rfl,HA,HK2,Ba,Bd,HB⟩:=hrel
    cases gk with
   |zero=>exact absurd HA.out (by simp [laws_qdQueue.l0])
   |succ k2 =>
     have H:=HA.out
     clear HA
     simp only [laws_qdQueue.l0] at H
     by_cases c14:x5_2<(l0_0.length:Int)
     rotate_left
     ·rw [if_neg c14] at H
      have c14b0:decide (x5_2<(l0_0.length:Int))=false:=decide_eq_false c14
      clear c14
      obtain rfl:=Option.some.inj H
      have B1:=Bf.out
      have B2:=Bg.out
      have BR:=cz0 Ba.out
      have BS:=cz1 Ba.out
      have BT:=bF Ba.out 0
      have BU:=bF Ba.out 1
      go_wp2
      repeat (go_quiet (fail);try go_wp2)
      go_ret
      exact ⟨by first|rfl|(simp [errW_none,errW_some] <;> rfl)|(simp [*,errW_none,errW_some] <;> rfl),by repeat (first|(with_reducible first|exact HB.out|apply oA|apply pN|apply o1|refine bS ?_ Be.out|refine bS ?_ Bh.out)|exact HB.out)⟩


     rw [if_pos c14] at H
     have c14b0:decide (x5_2<(l0_0.length:Int))=true:=decide_eq_true c14
     clear c14
     by_cases c15:0≤x5_2
     rotate_left
     ·rw [if_neg c15] at H
      exact absurd H (by simp)
     rw [if_pos c15] at H
     have c15b0:decide (0≤x5_2)=true:=decide_eq_true c15
     clear c15
     by_cases c16:x5_2<(l1_0.length:Int)
     rotate_left
     ·rw [if_neg c16] at H
      exact absurd H (by simp)
     rw [if_pos c16] at H
     have c16b0:decide (x5_2<(l1_0.length:Int))=true:=decide_eq_true c16
     clear c16
     by_cases c17:(!(((rd_T40 l0_0 x5_2).f0) == ((rd_T40 l1_0 x5_2).f0)) || (!(((rd_T40 l0_0 x5_2).f1) == ((rd_T40 l1_0 x5_2).f1)) || (!(((rd_T40 l0_0 x5_2).f2) == ((rd_T40 l1_0 x5_2).f2)) || (!(((rd_T40 l0_0 x5_2).f3) == ((rd_T40 l1_0 x5_2).f3))))))=true
     ·rw [if_pos c17] at H
      have c17b0:(!(((rd_T40 l0_0 x5_2).f0) == ((rd_T40 l1_0 x5_2).f0)) || (!(((rd_T40 l0_0 x5_2).f1) == ((rd_T40 l1_0 x5_2).f1)) || (!(((rd_T40 l0_0 x5_2).f2) == ((rd_T40 l1_0 x5_2).f2)) || (!(((rd_T40 l0_0 x5_2).f3) == ((rd_T40 l1_0 x5_2).f3))))))=true:=c17
      clear c17
      obtain rfl:=Option.some.inj H
      have BX:=Bf.out
      have BY:=Bg.out
      have BB:=cz0 Ba.out
      have BC:=cz1 Ba.out
      have BD:=bF Ba.out 0
      have BE:=bF Ba.out 1
      have p103:0≤(x5_2:Int):=of_decide_eq_true (by first|(with_reducible assumption)|assumption)
      have q103:x5_2<(l0_0.length:Int):=of_decide_eq_true (by first|(with_reducible assumption)|assumption)
      obtain ⟨ad103,e103,hx103_0,hx103_1,hx103_2,hx103_3⟩:=at_T40 HR0_0.out x5_2 p103 q103
      cases e103
      replace hx103_0:=(bW HB hx103_0:)
      replace hx103_1:=(bW HB hx103_1:)
      replace hx103_2:=(bW HB hx103_2:)
      replace hx103_3:=(bW HB hx103_3:)
      replace p103:=eq_true p103
      replace q103:=eq_true q103
      have BF:=cz0 Bd.out
      have BG:=cz1 Bd.out
      have BH:=bF Bd.out 0
      have BI:=bF Bd.out 1
      have p104:0≤(x5_2:Int):=of_decide_eq_true (by first|(with_reducible assumption)|assumption)
      have q104:x5_2<(l1_0.length:Int):=of_decide_eq_true (by first|(with_reducible assumption)|assumption)
      obtain ⟨ad104,e104,hx104_0,hx104_1,hx104_2,hx104_3⟩:=at_T40 HR1_0.out x5_2 p104 q104
      cases e104
      replace hx104_0:=(bW HB hx104_0:)
      replace hx104_1:=(bW HB hx104_1:)
      replace hx104_2:=(bW HB hx104_2:)
      replace hx104_3:=(bW HB hx104_3:)
      replace p104:=eq_true p104
      replace q104:=eq_true q104
      go_wp2
      repeat (go_quiet (fail);try go_wp2)
      go_ret
      exact ⟨by first|rfl|(simp [errW_none,errW_some] <;> rfl)|(simp [*,errW_none,errW_some] <;> rfl),by repeat (first|(with_reducible first|exact HB.out|apply oA|apply pN|apply o1|refine bS ?_ Be.out|refine bS ?_ Bh.out)|exact HB.out)⟩
     rw [if_neg c17] at H
     have c17b0:(!(((rd_T40 l0_0 x5_2).f0) == ((rd_T40 l1_0 x5_2).f0)) || (!(((rd_T40 l0_0 x5_2).f1) == ((rd_T40 l1_0 x5_2).f1)) || (!(((rd_T40 l0_0 x5_2).f2) == ((rd_T40 l1_0 x5_2).f2)) || (!(((rd_T40 l0_0 x5_2).f3) == ((rd_T40 l1_0 x5_2).f3))))))=false:=by simpa using c17
     clear c17
     have H':=Am H
     clear H
     have BZ:=Bf.out
     have B0:=Bg.out
     have BJ:=cz0 Ba.out
     have BK:=cz1 Ba.out
     have BL:=bF Ba.out 0
     have BM:=bF Ba.out 1
     have p103:0≤(x5_2:Int):=of_decide_eq_true (by first|(with_reducible assumption)|assumption)
     have q103:x5_2<(l0_0.length:Int):=of_decide_eq_true (by first|(with_reducible assumption)|assumption)
     obtain ⟨ad103,e103,hx103_0,hx103_1,hx103_2,hx103_3⟩:=at_T40 HR0_0.out x5_2 p103 q103
     cases e103
     replace hx103_0:=(bW HB hx103_0:)
     replace hx103_1:=(bW HB hx103_1:)
     replace hx103_2:=(bW HB hx103_2:)
     replace hx103_3:=(bW HB hx103_3:)
     replace p103:=eq_true p103
     replace q103:=eq_true q103
     have BN:=cz0 Bd.out
     have BO:=cz1 Bd.out
     have BP:=bF Bd.out 0
     have BQ:=bF Bd.out 1
     have p104:0≤(x5_2:Int):=of_decide_eq_true (by first|(with_reducible assumption)|assumption)
     have q104:x5_2<(l1_0.length:Int):=of_decide_eq_true (by first|(with_reducible assumption)|assumption)
     obtain ⟨ad104,e104,hx104_0,hx104_1,hx104_2,hx104_3⟩:=at_T40 HR1_0.out x5_2 p104 q104
     cases e104
     replace hx104_0:=(bW HB hx104_0:)
     replace hx104_1:=(bW HB hx104_1:)
     replace hx104_2:=(bW HB hx104_2:)
     replace hx104_3:=(bW HB hx104_3:)
     replace p104:=eq_true p104
     replace q104:=eq_true q104
     go_wp2
     repeat (go_quiet (fail);try go_wp2)
     go_roundg k2
     case measure=>have:=BA.out;have:=HK2.out;omega
     case rel=>exact ⟨(wrap64 (x5_2 + 1)),(by first|rfl|(simp;done)|(simp [*];done)),H',⟨by have:=BA.out;have:=HK2.out;omega⟩,⟨by (with_reducible repeat (first|refine bN ?_ _|refine bD ?_|refine bA ?_ _));exact Ba.out⟩,⟨by (with_reducible repeat (first|refine bN ?_ _|refine bD ?_|refine bA ?_ _));exact Bd.out⟩,⟨by repeat (first|(with_reducible first|exact HB.out|apply oA|apply pN|apply o1|refine bS ?_ Be.out|refine bS ?_ Bh.out)|exact HB.out)⟩⟩/-! ### impl_in: function 41 -/
def impl_in.f (a0 : Int) (a1 : Int) (a2 : Int) : Option (Bool) := if a0 ≥ a1 then (some (decide (a0 ≤ a2))) else (some false)
set_option maxHeartbeats 2000000 in
set_option maxRecDepth 100000 in
theorem impl_in.calls (a0:Int) (a1:Int) (a2:Int) (r:Bool) (w:World) (h:impl_in.f a0 a1 a2=some r) :
  Calls Try.prog 41 #[.int .i64 a0,.int .i64 a1,.int .i64 a2] w fun e w'=>e=.returned (.bool r)∧Drawn0 w w':=by
 have H:(if a0 ≥ a1 then (some (decide (a0≤a2))) else (some false))=some r:=h
 clear h
 by_cases c4:a0 ≥ a1
 ·rw [if_pos c4] at H
  have c4b0:decide (a1≤a0)=true:=decide_eq_true c4
  clear c4
  obtain rfl:=Option.some.inj H
  go_enter Try.func41,Try.ntmps41
  go_wp2
  go_ret
  exact ⟨by first|rfl|(simp;done)|(simp [*];done),by repeat (first|exact Drawn0.refl _|apply Drawn0.step)⟩
 rw [if_neg c4] at H
 have c4b0:decide (a1≤a0)=false:=decide_eq_false c4
 clear c4
 obtain rfl:=Option.some.inj H
 go_enter Try.func41,Try.ntmps41
 go_wp2
 go_ret
 exact ⟨by first|rfl|(simp;done)|(simp [*];done),by repeat (first|exact Drawn0.refl _|apply Drawn0.step)⟩

end Go.Proofs.Ytfhcgmfodfcpeaa.PFnQueueLess
