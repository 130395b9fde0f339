/- Proved here, without a condition beyond those that each theorem states: what the Go functions named below do is what the plain functions of the same names say. Written by xprint.py, a program of this session. -/
import Derived.Test.YtehekikjadjdaaaPFnExactQueueLessx0
import Derived.Test.YtehekikjadjdaaaPFnExactQueueLessx1
namespace Go.Proofs.Ytehekikjadjdaaa.PFnExactQueueLess
open Go.RowKit Go.Proofs.YtehekikjadjdaaaW.PrintWords Go.Proofs.YtehekikjadjdaaaW.PrintLast Go.Proofs.YtehekikjadjdaaaW.PrintMore
attribute [local go_sem] max2_int min2_int max_two min_two max_three min_three max_four min_four   -- for this text's walks alone
set_option linter.unusedVariables false
set_option linter.unusedSimpArgs false

attribute [local go_sem ↓] isSome_setCell_
/-! ### laws_eqTaskS: function 76 -/
def laws_eqTaskS.l0 : Nat → List (S86) → List (S86) → Int → Option (Bool)
|0, _, _, _ => none
|k + 1, x0, x1, x5 => if x5 < (x0.length : Int) then (if 0 ≤ x5 then (if x5 < (x1.length : Int) then ((laws_eqTask.f ((rd_T86 x0 x5).f0) ((rd_T86 x0 x5).f1) ((rd_T86 x0 x5).f2) ((rd_T86 x0 x5).f3) ((rd_T86 x1 x5).f0) ((rd_T86 x1 x5).f1) ((rd_T86 x1 x5).f2) ((rd_T86 x1 x5).f3)).bind fun t125 => (if t125 = true then (laws_eqTaskS.l0 k x0 x1 (wrap64 (x5 + 1))) else (some false))) else (none)) else (none)) else (some true)
def laws_eqTaskS.f (k : Nat) (l0 : List (S86)) (l1 : List (S86)) : Option (Bool) := if (l0.length : Int) = (l1.length : Int) then (laws_eqTaskS.l0 k l0 l1 0) else (some false)
theorem laws_eqTaskS.mono_l : ∀ k, (∀ y0 y1 y2, LeO (laws_eqTaskS.l0 k y0 y1 y2) (laws_eqTaskS.l0 (k + 1) y0 y1 y2))
|0 => fun _ _ _ r h => by simp [laws_eqTaskS.l0] at h
|k + 1 => by
  have ih0 := laws_eqTaskS.mono_l k
  ·intro y0 y1 y2
   unfold laws_eqTaskS.l0
   repeat' first
  |(with_reducible exact ih0 _ _ _)
  |(with_reducible exact LeO.refl _)
  |(with_reducible exact LeO.none _)
  |(with_reducible refine LeO.ite ?_ ?_)
  |(with_reducible refine LeO.bind ?_ (fun _ => ?_))
  |exact ih0 _ _ _
  |exact LeO.none _
  |refine LeO.ite ?_ ?_
  |refine LeO.bind ?_ (fun _ => ?_)
theorem laws_eqTaskS.mono : ∀ a0 a1 k, LeO (laws_eqTaskS.f k a0 a1) (laws_eqTaskS.f (k + 1) a0 a1) := by
 intro a0 a1 k
 have ih0 := laws_eqTaskS.mono_l k
 unfold laws_eqTaskS.f
 repeat' first
  |(with_reducible exact ih0 _ _ _)
  |(with_reducible exact LeO.refl _)
  |(with_reducible exact LeO.none _)
  |(with_reducible refine LeO.ite ?_ ?_)
  |(with_reducible refine LeO.bind ?_ (fun _ => ?_))
  |exact ih0 _ _ _
  |exact LeO.none _
  |refine LeO.ite ?_ ?_
  |refine LeO.bind ?_ (fun _ => ?_)
def laws_eqTaskS.T6 : Bool × List (List Nat × List Nat) := (true, [([], []), ([], []), ([0, 1], [0, 1]), ([2], [2]), ([], []), ([], []), ([4, 5], [4, 5]), ([6], [6]), ([3, 7], [3, 7]), ([8], [8])])
def laws_eqTaskS.B6 : List Nat := [0, 0, 3, 7, 0, 0, 48, 112, 255, 511]
theorem laws_eqTaskS.tab6 : rtab .any (opsOf Try.f76 6) = laws_eqTaskS.T6 := by kernel_rfl
theorem laws_eqTaskS.bits6 : waitsOk laws_eqTaskS.T6.2 laws_eqTaskS.B6 = true := by kernel_rfl
abbrev z76q0 : Array Bool := bQ 10 0
abbrev z76q1 : Array Bool := bQ 10 1
abbrev z76q2 : Array Bool := bQ 10 3
abbrev z76q3 : Array Bool := bQ 10 7
abbrev z76q4 : Array Bool := bQ 10 23
abbrev z76q5 : Array Bool := bQ 10 55
abbrev z76q6 : Array Bool := bQ 10 119
abbrev z76q7 : Array Bool := bQ 10 127
abbrev z76q8 : Array Bool := bQ 10 255
abbrev z76q9 : Array Bool := bQ 10 511
abbrev z76q10 : Array Bool := bQ 10 1023
set_option maxHeartbeats 2000000 in
set_option maxRecDepth 100000 in
theorem laws_eqTaskS.calls (k:Nat) (A0:Option Addr) (c0:Nat) (l0:List (S86)) (A1:Option Addr) (c1:Nat) (l1:List (S86)) (r:Bool) (w:World) (hr0:Kd.C k86 w A0 l0.length l0) (hc0:l0.length≤c0) (hr1:Kd.C k86 w A1 l1.length l1) (hc1:l1.length≤c1) (h:laws_eqTaskS.f k l0 l1=some r) :
  Calls Try.prog 76 #[.slice A0 l0.length c0,.slice A1 l1.length c1] w fun e w'=>e=.returned (.bool r)∧Below w.heap.size w w':=by
 have hu86:=Try.underlying86
 have HR0:=Am hr0
 have HC0:=Am hc0
 clear hr0 hc0
 have HR1:=Am hr1
 have HC1:=Am hc1
 clear hr1 hc1
 have HB:=Am (Below.refl w.heap.size w)
 have H:(if (l0.length:Int)=(l1.length:Int) then (laws_eqTaskS.l0 k l0 l1 0) else (some false))=some r:=h
 clear h
 by_cases c3:(l0.length:Int)=(l1.length:Int)
 rotate_left
 ·rw [if_neg c3] at H
  have c3b0:((l0.length:Int) == (l1.length:Int))=false:=beq_eq_false_iff_ne.mpr c3
  have c3b1:((l0.length:Int) != (l1.length:Int))=true:=bne_iff_ne.mpr c3
  have c3b2:(l0.length == l1.length)=false:=by first|simpa using c3|(simp at c3 ⊢;omega)
  obtain rfl:=Option.some.inj H
  go_enter Try.func76,Try.ntmps76
  go_wp2
  go_ret
  exact ⟨by first|rfl|(simp [errW_none,errW_some] <;> rfl)|(simp [*,errW_none,errW_some] <;> rfl),by repeat (first|(with_reducible first|exact HB.out|apply oA|apply pN|apply o1)|exact HB.out)⟩

 rw [if_pos c3] at H
 have c3b0:((l0.length:Int) == (l1.length:Int))=true:=beq_iff_eq.mpr c3
 have c3b1:((l0.length:Int) != (l1.length:Int))=false:=bne_eq_false_iff_eq.mpr c3
 have c3b2:(l0.length == l1.length)=true:=by first|simpa using c3|(simp at c3 ⊢;omega)
 clear c3
 have H':=Am H
 clear H
 go_enter Try.func76,Try.ntmps76
 go_wp2
 go_loopg [5] k (fun kq v5 w'=>∃ (x5_1:Int),v5=.int .i64 x5_1∧Aside0 (laws_eqTaskS.l0 kq l0 l1 x5_1=some r)∧Aside0 (kq≤k)∧Aside0 (Below w.heap.size w w'))
 case atStart=>exact ⟨(0),(by first|rfl|(simp;done)|(simp [*];done)),H',⟨Nat.le_refl _⟩,⟨by repeat (first|(with_reducible first|exact HB.out|apply oA|apply pN|apply o1)|exact HB.out)⟩⟩
 case round =>
  clear H'
  try clear c1
  try clear p2
  try clear c3
  try clear c3b0
  try clear c3b1
  try clear c3b2
  obtain ⟨x5_1,rfl,HA,HK1,HB⟩:=hrel
  cases gk with
 |zero=>exact absurd HA.out (by simp [laws_eqTaskS.l0])
 |succ k1 =>
   have H:=HA.out
   clear HA
   simp only [laws_eqTaskS.l0] at H
   by_cases c4:x5_1<(l0.length:Int)
   rotate_left
   ·rw [if_neg c4] at H
    have c4b0:decide (x5_1<(l0.length:Int))=false:=decide_eq_false c4
    clear c4
    obtain rfl:=Option.some.inj H
    go_wp2
    go_ret
    exact ⟨by first|rfl|(simp [errW_none,errW_some] <;> rfl)|(simp [*,errW_none,errW_some] <;> rfl),by repeat (first|(with_reducible first|exact HB.out|apply oA|apply pN|apply o1)|exact HB.out)⟩
   rw [if_pos c4] at H
   have c4b0:decide (x5_1<(l0.length:Int))=true:=decide_eq_true c4
   clear c4
   by_cases c5:0≤x5_1
   rotate_left
   ·rw [if_neg c5] at H
    exact absurd H (by simp)
   rw [if_pos c5] at H
   have c5b0:decide (0≤x5_1)=true:=decide_eq_true c5
   clear c5
   by_cases c6:x5_1<(l1.length:Int)
   rotate_left
   ·rw [if_neg c6] at H
    exact absurd H (by simp)
   rw [if_pos c6] at H
   have c6b0:decide (x5_1<(l1.length:Int))=true:=decide_eq_true c6
   clear c6
   replace H:=oC H
   obtain ⟨t125,A70,H⟩:=H
   replace H:(if t125=true then (laws_eqTaskS.l0 k1 l0 l1 (wrap64 (x5_1 + 1))) else (some false))=some r:=H
   have A7:=Am A70
   clear A70
   by_cases c8:t125=true
   rotate_left
   ·replace c8:=Bool.eq_false_iff.mpr c8
    subst c8
    have H1:(some false)=some r:=by rw [if_neg (show ¬ (false=true) by decide)] at H;exact H
    clear H
    have H:=H1
    clear H1
    obtain rfl:=Option.some.inj H
    try go_wp2
    have n0_:=Am (o1 HB.out)
    clear HB
    have HB:=n0_
    clear n0_
    have p123:0≤(x5_1:Int):=of_decide_eq_true (by first|(with_reducible assumption)|assumption)
    have q123:x5_1<(l0.length:Int):=of_decide_eq_true (by first|(with_reducible assumption)|assumption)
    obtain ⟨ad123,e123,hx123_0,hx123_1,hx123_2,hx123_3⟩:=at_T86 HR0.out x5_1 p123 q123
    have hw123_3:=hx123_3
    have hw123_2:=hx123_2
    have hw123_1:=hx123_1
    have hw123_0:=hx123_0
    cases e123
    replace hx123_0:=(bW HB hx123_0:)
    replace hx123_1:=(bW HB hx123_1:)
    replace hx123_2:=(bW HB hx123_2:)
    replace hx123_3:=(bW HB hx123_3:)
    replace p123:=eq_true p123
    replace q123:=eq_true q123
    have p124:0≤(x5_1:Int):=of_decide_eq_true (by first|(with_reducible assumption)|assumption)
    have q124:x5_1<(l1.length:Int):=of_decide_eq_true (by first|(with_reducible assumption)|assumption)
    obtain ⟨ad124,e124,hx124_0,hx124_1,hx124_2,hx124_3⟩:=at_T86 HR1.out x5_1 p124 q124
    have hw124_3:=hx124_3
    have hw124_2:=hx124_2
    have hw124_1:=hx124_1
    have hw124_0:=hx124_0
    cases e124
    replace hx124_0:=(bW HB hx124_0:)
    replace hx124_1:=(bW HB hx124_1:)
    replace hx124_2:=(bW HB hx124_2:)
    replace hx124_3:=(bW HB hx124_3:)
    replace p124:=eq_true p124
    replace q124:=eq_true q124
    refine start_ (n:=10) (S:=fun w'=>w'.cell? (ad123.add ((x5_1).toNat * 4))=some (.int .i64 ((rd_T86 l0 x5_1).f0))∧w'.cell? ⟨(ad123.add ((x5_1).toNat * 4)).block,(ad123.add ((x5_1).toNat * 4)).off + 1,none⟩=some (.int .i64 ((rd_T86 l0 x5_1).f1))∧w'.cell? ⟨(ad123.add ((x5_1).toNat * 4)).block,(ad123.add ((x5_1).toNat * 4)).off + 2,none⟩=some (.int .i64 ((rd_T86 l0 x5_1).f2))∧w'.cell? ⟨(ad123.add ((x5_1).toNat * 4)).block,(ad123.add ((x5_1).toNat * 4)).off + 3,none⟩=some (.bool ((rd_T86 l0 x5_1).f3))∧w'.cell? (ad124.add ((x5_1).toNat * 4))=some (.int .i64 ((rd_T86 l1 x5_1).f0))∧w'.cell? ⟨(ad124.add ((x5_1).toNat * 4)).block,(ad124.add ((x5_1).toNat * 4)).off + 1,none⟩=some (.int .i64 ((rd_T86 l1 x5_1).f1))∧w'.cell? ⟨(ad124.add ((x5_1).toNat * 4)).block,(ad124.add ((x5_1).toNat * 4)).off + 2,none⟩=some (.int .i64 ((rd_T86 l1 x5_1).f2))∧w'.cell? ⟨(ad124.add ((x5_1).toNat * 4)).block,(ad124.add ((x5_1).toNat * 4)).off + 3,none⟩=some (.bool ((rd_T86 l1 x5_1).f3))) (ds:=[]) z76q0 (by kernel_rfl) rfl rfl ⟨(bW HB hw123_0:),(bW HB hw123_1:),(bW HB hw123_2:),(bW HB hw123_3:),(bW HB hw124_0:),(bW HB hw124_1:),(bW HB hw124_2:),(bW HB hw124_3:)⟩ (fun hHeld=>?_);refine with_st laws_eqTaskS.tab6 laws_eqTaskS.bits6 (fun _ _ _ _ _ h=>h) (fun HT_=>?_)
    generalize wr.drew=w11 at HB hx123_0 hx123_1 hx123_2 hx123_3 hx124_0 hx124_1 hx124_2 hx124_3 hHeld ⊢
    refine pS 0 17 z76q1 HT_ rfl rfl (by kernel_rfl) (by rfl) (by intro w';go_simp;with_reducible rfl) (by simp only [Act.put,lA,lZ,lS,iw,jw];rfl) ?_
    refine pS 1 18 z76q2 HT_ rfl rfl (by kernel_rfl) (by rfl) (by intro w';go_simp;with_reducible rfl) (by simp only [Act.put,lA,lZ,lS,iw,jw];rfl) ?_
    refine pS 2 19 z76q3 HT_ rfl rfl (by kernel_rfl) (by rfl) (by intro w';go_simp;with_reducible rfl) (by simp only [Act.put,lA,lZ,lS,iw,jw];rfl) ?_
    refine pS 4 21 z76q4 HT_ rfl rfl (by kernel_rfl) (by rfl) (by intro w';go_simp;with_reducible rfl) (by simp only [Act.put,lA,lZ,lS,iw,jw];rfl) ?_
    refine pS 5 22 z76q5 HT_ rfl rfl (by kernel_rfl) (by rfl) (by intro w';go_simp;with_reducible rfl) (by simp only [Act.put,lA,lZ,lS,iw,jw];rfl) ?_
    refine pS 6 23 z76q6 HT_ rfl rfl (by kernel_rfl) (by rfl) (by intro w';go_simp;with_reducible rfl) (by simp only [Act.put,lA,lZ,lS,iw,jw];rfl) ?_
    refine tS 3 20 z76q7 HT_ hHeld rfl rfl (by kernel_rfl) (by rfl) (by rintro w' ⟨s0,s1,s2,s3,s4,s5,s6,s7⟩;go_simp;with_reducible rfl) (by simp only [Act.put,lA,lZ,lS,iw,jw];rfl) ?_
    refine tS 7 24 z76q8 HT_ hHeld rfl rfl (by kernel_rfl) (by rfl) (by rintro w' ⟨s0,s1,s2,s3,s4,s5,s6,s7⟩;go_simp;with_reducible rfl) (by simp only [Act.put,lA,lZ,lS,iw,jw];rfl) ?_
    refine oS 8 25 z76q9 HT_ rfl rfl (by kernel_rfl) (by decide) (fun K hK=>?_)
    refine goes_ Try.func104 (by kernel_rfl) rfl #[.agg #[.int .i64 ((rd_T86 l0 x5_1).f0),.int .i64 ((rd_T86 l0 x5_1).f1),.int .i64 ((rd_T86 l0 x5_1).f2),.bool ((rd_T86 l0 x5_1).f3)],.agg #[.int .i64 ((rd_T86 l1 x5_1).f0),.int .i64 ((rd_T86 l1 x5_1).f1),.int .i64 ((rd_T86 l1 x5_1).f2),.bool ((rd_T86 l1 x5_1).f3)]] (by rfl) rfl rfl (by (try simp only [lM,lC,lN]);first|done|rfl|(simp only [lD,lT];rfl)) ?_
    with_reducible refine (laws_eqTask.calls ((rd_T86 l0 x5_1).f0) ((rd_T86 l0 x5_1).f1) ((rd_T86 l0 x5_1).f2) ((rd_T86 l0 x5_1).f3) ((rd_T86 l1 x5_1).f0) ((rd_T86 l1 x5_1).f1) ((rd_T86 l1 x5_1).f2) ((rd_T86 l1 x5_1).f3) false _ A7.out).mono ?_
    rintro e w12 ⟨rfl,hb⟩
    refine ⟨_,rfl,?_⟩
    have n0_:=Am (bP (by repeat (first|(with_reducible first|exact HB.out|apply oA|apply pN|apply o1)|exact HB.out)) hb)
    clear HB
    have HB:=n0_
    clear n0_
    (try clear hb)
    (try clear hb2)
    (try clear hk)
    (try clear hi)
    refine hK.out _ _ ⟨(bW HB hw123_0:),(bW HB hw123_1:),(bW HB hw123_2:),(bW HB hw123_3:),(bW HB hw124_0:),(bW HB hw124_1:),(bW HB hw124_2:),(bW HB hw124_3:)⟩ (fun hHeld=>?_)
    clear hK K
    refine norm_ (by show Act.put _ (some 25) _=_;simp only [Act.put,lA,lZ,lS,iw,jw];rfl) ?_
    refine pS 9 26 z76q10 HT_ rfl rfl (by kernel_rfl) (by rfl) (by intro w';go_simp;with_reducible rfl) (by simp only [Act.put,lA,lZ,lS,iw,jw];rfl) ?_
    refine done_ (done_of HT_.out (by kernel_rfl)) ?_
    try go_wp2
    go_ret
    exact ⟨by first|rfl|(simp [errW_none,errW_some] <;> rfl)|(simp [*,errW_none,errW_some] <;> rfl),by repeat (first|(with_reducible first|exact HB.out|apply oA|apply pN|apply o1)|exact HB.out)⟩
   subst c8
   have H1:(laws_eqTaskS.l0 k1 l0 l1 (wrap64 (x5_1 + 1)))=some r:=by rw [if_pos rfl] at H;exact H
   clear H
   have H:=H1
   clear H1
   have H':=Am H
   clear H
   try go_wp2
   have n0_:=Am (o1 HB.out)
   clear HB
   have HB:=n0_
   clear n0_
   have p123:0≤(x5_1:Int):=of_decide_eq_true (by first|(with_reducible assumption)|assumption)
   have q123:x5_1<(l0.length:Int):=of_decide_eq_true (by first|(with_reducible assumption)|assumption)
   obtain ⟨ad123,e123,hx123_0,hx123_1,hx123_2,hx123_3⟩:=at_T86 HR0.out x5_1 p123 q123
   have hw123_3:=hx123_3
   have hw123_2:=hx123_2
   have hw123_1:=hx123_1
   have hw123_0:=hx123_0
   cases e123
   replace hx123_0:=(bW HB hx123_0:)
   replace hx123_1:=(bW HB hx123_1:)
   replace hx123_2:=(bW HB hx123_2:)
   replace hx123_3:=(bW HB hx123_3:)
   replace p123:=eq_true p123
   replace q123:=eq_true q123
   have p124:0≤(x5_1:Int):=of_decide_eq_true (by first|(with_reducible assumption)|assumption)
   have q124:x5_1<(l1.length:Int):=of_decide_eq_true (by first|(with_reducible assumption)|assumption)
   obtain ⟨ad124,e124,hx124_0,hx124_1,hx124_2,hx124_3⟩:=at_T86 HR1.out x5_1 p124 q124
   have hw124_3:=hx124_3
   have hw124_2:=hx124_2
   have hw124_1:=hx124_1
   have hw124_0:=hx124_0
   cases e124
   replace hx124_0:=(bW HB hx124_0:)
   replace hx124_1:=(bW HB hx124_1:)
   replace hx124_2:=(bW HB hx124_2:)
   replace hx124_3:=(bW HB hx124_3:)
   replace p124:=eq_true p124
   replace q124:=eq_true q124
   refine start_ (n:=10) (S:=fun w'=>w'.cell? (ad123.add ((x5_1).toNat * 4))=some (.int .i64 ((rd_T86 l0 x5_1).f0))∧w'.cell? ⟨(ad123.add ((x5_1).toNat * 4)).block,(ad123.add ((x5_1).toNat * 4)).off + 1,none⟩=some (.int .i64 ((rd_T86 l0 x5_1).f1))∧w'.cell? ⟨(ad123.add ((x5_1).toNat * 4)).block,(ad123.add ((x5_1).toNat * 4)).off + 2,none⟩=some (.int .i64 ((rd_T86 l0 x5_1).f2))∧w'.cell? ⟨(ad123.add ((x5_1).toNat * 4)).block,(ad123.add ((x5_1).toNat * 4)).off + 3,none⟩=some (.bool ((rd_T86 l0 x5_1).f3))∧w'.cell? (ad124.add ((x5_1).toNat * 4))=some (.int .i64 ((rd_T86 l1 x5_1).f0))∧w'.cell? ⟨(ad124.add ((x5_1).toNat * 4)).block,(ad124.add ((x5_1).toNat * 4)).off + 1,none⟩=some (.int .i64 ((rd_T86 l1 x5_1).f1))∧w'.cell? ⟨(ad124.add ((x5_1).toNat * 4)).block,(ad124.add ((x5_1).toNat * 4)).off + 2,none⟩=some (.int .i64 ((rd_T86 l1 x5_1).f2))∧w'.cell? ⟨(ad124.add ((x5_1).toNat * 4)).block,(ad124.add ((x5_1).toNat * 4)).off + 3,none⟩=some (.bool ((rd_T86 l1 x5_1).f3))) (ds:=[]) z76q0 (by kernel_rfl) rfl rfl ⟨(bW HB hw123_0:),(bW HB hw123_1:),(bW HB hw123_2:),(bW HB hw123_3:),(bW HB hw124_0:),(bW HB hw124_1:),(bW HB hw124_2:),(bW HB hw124_3:)⟩ (fun hHeld=>?_);refine with_st laws_eqTaskS.tab6 laws_eqTaskS.bits6 (fun _ _ _ _ _ h=>h) (fun HT_=>?_)
   generalize wr.drew=w9 at HB hx123_0 hx123_1 hx123_2 hx123_3 hx124_0 hx124_1 hx124_2 hx124_3 hHeld ⊢
   refine pS 0 17 z76q1 HT_ rfl rfl (by kernel_rfl) (by rfl) (by intro w';go_simp;with_reducible rfl) (by simp only [Act.put,lA,lZ,lS,iw,jw];rfl) ?_
   refine pS 1 18 z76q2 HT_ rfl rfl (by kernel_rfl) (by rfl) (by intro w';go_simp;with_reducible rfl) (by simp only [Act.put,lA,lZ,lS,iw,jw];rfl) ?_
   refine pS 2 19 z76q3 HT_ rfl rfl (by kernel_rfl) (by rfl) (by intro w';go_simp;with_reducible rfl) (by simp only [Act.put,lA,lZ,lS,iw,jw];rfl) ?_
   refine pS 4 21 z76q4 HT_ rfl rfl (by kernel_rfl) (by rfl) (by intro w';go_simp;with_reducible rfl) (by simp only [Act.put,lA,lZ,lS,iw,jw];rfl) ?_
   refine pS 5 22 z76q5 HT_ rfl rfl (by kernel_rfl) (by rfl) (by intro w';go_simp;with_reducible rfl) (by simp only [Act.put,lA,lZ,lS,iw,jw];rfl) ?_
   refine pS 6 23 z76q6 HT_ rfl rfl (by kernel_rfl) (by rfl) (by intro w';go_simp;with_reducible rfl) (by simp only [Act.put,lA,lZ,lS,iw,jw];rfl) ?_
   refine tS 3 20 z76q7 HT_ hHeld rfl rfl (by kernel_rfl) (by rfl) (by rintro w' ⟨s0,s1,s2,s3,s4,s5,s6,s7⟩;go_simp;with_reducible rfl) (by simp only [Act.put,lA,lZ,lS,iw,jw];rfl) ?_
   refine tS 7 24 z76q8 HT_ hHeld rfl rfl (by kernel_rfl) (by rfl) (by rintro w' ⟨s0,s1,s2,s3,s4,s5,s6,s7⟩;go_simp;with_reducible rfl) (by simp only [Act.put,lA,lZ,lS,iw,jw];rfl) ?_
   refine oS 8 25 z76q9 HT_ rfl rfl (by kernel_rfl) (by decide) (fun K hK=>?_)
   refine goes_ Try.func104 (by kernel_rfl) rfl #[.agg #[.int .i64 ((rd_T86 l0 x5_1).f0),.int .i64 ((rd_T86 l0 x5_1).f1),.int .i64 ((rd_T86 l0 x5_1).f2),.bool ((rd_T86 l0 x5_1).f3)],.agg #[.int .i64 ((rd_T86 l1 x5_1).f0),.int .i64 ((rd_T86 l1 x5_1).f1),.int .i64 ((rd_T86 l1 x5_1).f2),.bool ((rd_T86 l1 x5_1).f3)]] (by rfl) rfl rfl (by (try simp only [lM,lC,lN]);first|done|rfl|(simp only [lD,lT];rfl)) ?_
   with_reducible refine (laws_eqTask.calls ((rd_T86 l0 x5_1).f0) ((rd_T86 l0 x5_1).f1) ((rd_T86 l0 x5_1).f2) ((rd_T86 l0 x5_1).f3) ((rd_T86 l1 x5_1).f0) ((rd_T86 l1 x5_1).f1) ((rd_T86 l1 x5_1).f2) ((rd_T86 l1 x5_1).f3) true _ A7.out).mono ?_
   rintro e w10 ⟨rfl,hb⟩
   refine ⟨_,rfl,?_⟩
   have n0_:=Am (bP (by repeat (first|(with_reducible first|exact HB.out|apply oA|apply pN|apply o1)|exact HB.out)) hb)
   clear HB
   have HB:=n0_
   clear n0_
   (try clear hb)
   (try clear hb2)
   (try clear hk)
   (try clear hi)
   refine hK.out _ _ ⟨(bW HB hw123_0:),(bW HB hw123_1:),(bW HB hw123_2:),(bW HB hw123_3:),(bW HB hw124_0:),(bW HB hw124_1:),(bW HB hw124_2:),(bW HB hw124_3:)⟩ (fun hHeld=>?_)
   clear hK K
   refine norm_ (by show Act.put _ (some 25) _=_;simp only [Act.put,lA,lZ,lS,iw,jw];rfl) ?_
   refine pS 9 26 z76q10 HT_ rfl rfl (by kernel_rfl) (by rfl) (by intro w';go_simp;with_reducible rfl) (by simp only [Act.put,lA,lZ,lS,iw,jw];rfl) ?_
   refine done_ (done_of HT_.out (by kernel_rfl)) ?_
   try go_wp2
   go_roundg k1
   case measure=>have:=HK1.out;omega
   case rel=>exact ⟨(wrap64 (x5_1 + 1)),(by first|rfl|(simp;done)|(simp [*];done)),H',⟨by have:=HK1.out;omega⟩,⟨by repeat (first|(with_reducible first|exact HB.out|apply oA|apply pN|apply o1)|exact HB.out)⟩⟩
end Go.Proofs.Ytehekikjadjdaaa.PFnExactQueueLess
