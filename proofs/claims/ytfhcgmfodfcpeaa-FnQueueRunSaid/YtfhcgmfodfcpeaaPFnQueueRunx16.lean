/- Proved here, without a condition beyond those that each theorem states: what the Go functions named below do is what the plain functions of the same names say. Written by xprint.py, a program of this session. -/
import Derived.Test.YtfhcgmfodfcpeaaPFnQueueRunx0
import Derived.Test.YtfhcgmfodfcpeaaPFnQueueRunx10
import Derived.Test.YtfhcgmfodfcpeaaPFnQueueRunx13
import Derived.Test.YtfhcgmfodfcpeaaPFnQueueRunx14
import Derived.Test.YtfhcgmfodfcpeaaPFnQueueRunx15
namespace Go.Proofs.Ytfhcgmfodfcpeaa.PFnQueueRun
open Go.RowKit Go.Proofs.YtfhcgmfodfcpeaaW.PrintWords Go.Proofs.YtfhcgmfodfcpeaaW.PrintLast Go.Proofs.YtfhcgmfodfcpeaaW.PrintMore
attribute [local go_sem] max2_int min2_int max_two min_two max_three min_three max_four min_four   -- for this text's walks alone
set_option linter.unusedVariables false
set_option linter.unusedSimpArgs false

attribute [local go_sem ↓] isSome_setCell_
/-! ### spec_QueueRun: function 31 -/
mutual
def spec_QueueRun.j0 : Nat → Int → Bool → List (S40) → Int → Option ((List (S40)) × Int × List Int × Bool)
|0, _, _, _, _ => none
|k + 1, x1, x19, x305000, x305001 => if x19 = true then (some (([] : List (S40)), 0, (([] : List Int)), false)) else ((spec_l11Copy.f x305000 x305001).bind fun bt311 => (spec_QueueRun.l0 k x1 (([] : List Int)) 0 bt311.1 bt311.2))
def spec_QueueRun.l0 : Nat → Int → List Int → Int → List (S40) → Int → Option ((List (S40)) × Int × List Int × Bool)
|0, _, _, _, _, _ => none
|k + 1, x1, x8, x9, x316000, x316001 => if x9 < x1 then ((spec_l11Tick.f k x316000 x316001).bind fun bt319 => (if bt319.2.2 < 0 then (some (([] : List (S40)), 0, (([] : List Int)), false)) else (if x8.length < 17592186044416 then (spec_QueueRun.l0 k x1 (x8 ++ [bt319.2.2]) (wrap64 (x9 + 1)) bt319.1 bt319.2.1) else (none)))) else (some (x316000, x316001, x8, true))
end
def spec_QueueRun.f (k : Nat) (l0_0 : List (S40)) (a0_1 : Int) (a1 : Int) : Option ((List (S40)) × Int × List Int × Bool) := (spec_QueueOk.f k l0_0 a0_1).bind fun t306 => (if t306 = true then ((spec_l6In.f a1 0 1000).bind fun t307 => (spec_QueueRun.j0 k a1 (!t307) l0_0 a0_1)) else (spec_QueueRun.j0 k a1 true l0_0 a0_1))
theorem spec_QueueRun.mono_l : ∀ k, (∀ y0 y1 y2 y3, LeO (spec_QueueRun.j0 k y0 y1 y2 y3) (spec_QueueRun.j0 (k + 1) y0 y1 y2 y3)) ∧ (∀ y0 y1 y2 y3 y4, LeO (spec_QueueRun.l0 k y0 y1 y2 y3 y4) (spec_QueueRun.l0 (k + 1) y0 y1 y2 y3 y4))
|0 => ⟨fun _ _ _ _ r h => by simp [spec_QueueRun.j0] at h, fun _ _ _ _ _ r h => by simp [spec_QueueRun.l0] at h⟩
|k + 1 => by
  obtain ⟨ih0, ih1⟩ := spec_QueueRun.mono_l k
  refine ⟨?_, ?_⟩
  ·intro y0 y1 y2 y3
   unfold spec_QueueRun.j0
   repeat' first
  |(with_reducible exact ih0 _ _ _ _)
  |(with_reducible exact ih1 _ _ _ _ _)
  |(with_reducible exact spec_QueueOk.mono _ _ _)
  |(with_reducible exact spec_l11Tick.mono _ _ _)
  |(with_reducible exact LeO.refl _)
  |(with_reducible exact LeO.none _)
  |(with_reducible refine LeO.ite ?_ ?_)
  |(with_reducible refine LeO.bind ?_ (fun _ => ?_))
  |exact ih0 _ _ _ _
  |exact ih1 _ _ _ _ _
  |exact spec_QueueOk.mono _ _ _
  |exact spec_l11Tick.mono _ _ _
  |exact LeO.none _
  |refine LeO.ite ?_ ?_
  |refine LeO.bind ?_ (fun _ => ?_)
  ·intro y0 y1 y2 y3 y4
   unfold spec_QueueRun.l0
   repeat' first
  |(with_reducible exact ih0 _ _ _ _)
  |(with_reducible exact ih1 _ _ _ _ _)
  |(with_reducible exact spec_QueueOk.mono _ _ _)
  |(with_reducible exact spec_l11Tick.mono _ _ _)
  |(with_reducible exact LeO.refl _)
  |(with_reducible exact LeO.none _)
  |(with_reducible refine LeO.ite ?_ ?_)
  |(with_reducible refine LeO.bind ?_ (fun _ => ?_))
  |exact ih0 _ _ _ _
  |exact ih1 _ _ _ _ _
  |exact spec_QueueOk.mono _ _ _
  |exact spec_l11Tick.mono _ _ _
  |exact LeO.none _
  |refine LeO.ite ?_ ?_
  |refine LeO.bind ?_ (fun _ => ?_)
theorem spec_QueueRun.mono : ∀ a0 a1 a2 k, LeO (spec_QueueRun.f k a0 a1 a2) (spec_QueueRun.f (k + 1) a0 a1 a2) := by
 intro a0 a1 a2 k
 obtain ⟨ih0, ih1⟩ := spec_QueueRun.mono_l k
 unfold spec_QueueRun.f
 repeat' first
  |(with_reducible exact ih0 _ _ _ _)
  |(with_reducible exact ih1 _ _ _ _ _)
  |(with_reducible exact spec_QueueOk.mono _ _ _)
  |(with_reducible exact spec_l11Tick.mono _ _ _)
  |(with_reducible exact LeO.refl _)
  |(with_reducible exact LeO.none _)
  |(with_reducible refine LeO.ite ?_ ?_)
  |(with_reducible refine LeO.bind ?_ (fun _ => ?_))
  |exact ih0 _ _ _ _
  |exact ih1 _ _ _ _ _
  |exact spec_QueueOk.mono _ _ _
  |exact spec_l11Tick.mono _ _ _
  |exact LeO.none _
  |refine LeO.ite ?_ ?_
  |refine LeO.bind ?_ (fun _ => ?_)
set_option maxHeartbeats 2000000 in
set_option maxRecDepth 100000 in
theorem spec_QueueRun.calls (k:Nat) (A0_0:Option Addr) (c0_0:Nat) (l0_0:List (S40)) (a0_1:Int) (a1:Int) (r1:List (S40)) (r2:Int) (r3:List Int) (r4:Bool) (w:World) (hr0_0:Kd.C k40 w A0_0 l0_0.length l0_0) (hc0_0:l0_0.length≤c0_0) (h:spec_QueueRun.f k l0_0 a0_1 a1=some (r1,r2,r3,r4)) :
  Calls Try.prog 31 #[.agg #[.slice A0_0 l0_0.length c0_0,.int .i64 a0_1],.int .i64 a1] w fun e w'=>∃ v0_ v2_:Value,e=.returned (.tuple #[.agg #[v0_,.int .i64 r2],v2_,.bool r4])∧Kd.R k40 40 w' w.heap.size (fun _=>True) v0_ r1∧Kd.R (Kd.int .i64) 3 w' w.heap.size (fun _=>True) v2_ r3∧Below w.heap.size w w':=by
 have hu25:=Try.underlying25
 have HR0_0:=Am hr0_0
 have HC0_0:=Am hc0_0
 clear hr0_0 hc0_0
 have HB:=Am (Below.refl w.heap.size w)
 have H:((spec_QueueOk.f k l0_0 a0_1).bind fun t306=>(if t306=true then ((spec_l6In.f a1 0 1000).bind fun t307=>(spec_QueueRun.j0 k a1 (!t307) l0_0 a0_1)) else (spec_QueueRun.j0 k a1 true l0_0 a0_1)))=some (r1,r2,r3,r4):=h
 clear h
 have HC3:=Am H
 clear H
 go_enter Try.func31,Try.ntmps31
 go_upto_region 1 with (first|((with_reducible refine gate_dst (N:=2) rfl ?_);refine box_event ?hg (N:=2) ?hd (cs:=#[.slice A0_0 l0_0.length c0_0,.int .i64 a0_1]) (t:=25) ?hr ?_;(case hd=>rfl);(case hg=>rfl);(case hr=>first|(go_simp;done)|(go_simp;rfl));intro Bf hg w4 hbox hb;have n0_:=Am (bP (by repeat (first|(with_reducible first|exact HB.out|apply oA|apply pN|apply o1)|exact HB.out)) hb);have n1_:=Am (hbox);have n2_:=Am ((by rw [hg];exact (bZ (by repeat (first|(with_reducible first|exact HB.out|apply oA|apply pN|apply o1)|exact HB.out))):w.heap.size≤Bf));have n3_:=Am ((by rw [hg];exact (bZ (by repeat (first|(with_reducible first|exact HB.out|apply oA|apply pN|apply o1)|exact HB.out))):w.heap.size≤Bf));clear HB;revert n0_ n1_ n2_ n3_;intro HB Bb Dy Bh;clear hb hbox hg)|((with_reducible refine gate_dst (N:=4) rfl ?_);refine box_event ?hg (N:=4) ?hd (cs:=#[.slice none 0 0,.int .i64 0]) (t:=25) ?hr ?_;(case hd=>rfl);(case hg=>rfl);(case hr=>first|(go_simp;done)|(go_simp;rfl));intro Bd hg w5 hbox hb;have n0_:=Am (bB (g:=Bf) (o:=.cells #[.slice A0_0 l0_0.length c0_0,.int .i64 a0_1] 25 (0,0)) (bL Bb.out) hb);have n1_:=Am (bP (by repeat (first|(with_reducible first|exact HB.out|apply oA|apply pN|apply o1|refine bS ?_ Bh.out)|exact HB.out)) hb);have n2_:=Am (hbox);have n3_:=Am ((by rw [hg];exact (bZ (by repeat (first|(with_reducible first|exact HB.out|apply oA|apply pN|apply o1|refine bS ?_ Bh.out)|exact HB.out))):w.heap.size≤Bd));have n4_:=Am ((by rw [hg];exact (bZ (by repeat (first|(with_reducible first|exact HB.out|apply oA|apply pN|apply o1|refine bS ?_ Bh.out)|exact HB.out))):w.heap.size≤Bd));have n5_:=Am ((by rw [hg];exact Nat.ne_of_lt (blk_lt (g:=Bf) (o:=.cells #[.slice A0_0 l0_0.length c0_0,.int .i64 a0_1] 25 (0,0)) (bL Bb.out)):Bf≠Bd));have n6_:=Am ((by rw [hg];exact Nat.ne_of_gt (blk_lt (g:=Bf) (o:=.cells #[.slice A0_0 l0_0.length c0_0,.int .i64 a0_1] 25 (0,0)) (bL Bb.out)):Bd≠Bf));clear Bb HB;revert n0_ n1_ n2_ n3_ n4_ n5_ n6_;intro Bb HB Ba Dz Bi Bo Bp;clear hb hbox hg))
 (try simp only [Act.put,lA,lZ,lS])
 go_cut [19] (fun v19 wc=>∃ (kq:Nat) (x19_2:Bool),v19=.bool x19_2∧Aside0 (spec_QueueRun.j0 kq a1 x19_2 l0_0 a0_1=some (r1,r2,r3,r4))∧Aside0 (kq≤k)∧Aside0 (wc.heap[Bf]?=some (.cells #[(.slice A0_0 l0_0.length c0_0),.int .i64 a0_1] 25 (0,0)))∧Aside0 (wc.heap[Bd]?=some (.cells #[(.slice none 0 0),.int .i64 0] 25 (0,0)))∧Aside0 (Below w.heap.size w wc))
 case first =>
  have H:=HC3.out
  clear HC3
  replace H:=oC H
  obtain ⟨t306,A60,H⟩:=H
  replace H:(if t306=true then ((spec_l6In.f a1 0 1000).bind fun t307=>(spec_QueueRun.j0 k a1 (!t307) l0_0 a0_1)) else (spec_QueueRun.j0 k a1 true l0_0 a0_1))=some (r1,r2,r3,r4):=H
  have A6:=Am A60
  clear A60
  by_cases c7:t306=true
  rotate_left
  ·replace c7:=Bool.eq_false_iff.mpr c7
   subst c7
   have H1:(spec_QueueRun.j0 k a1 true l0_0 a0_1)=some (r1,r2,r3,r4):=by rw [if_neg (show ¬ (false=true) by decide)] at H;exact H
   clear H
   have H:=H1
   clear H1
   have H':=Am H
   clear H
   have DA:=Bo.out
   have DB:=Bp.out
   have BG:w5.cell? ⟨Bf,0,none⟩=some (.slice A0_0 l0_0.length c0_0):=(bC Bb.out 0).trans rfl
   have BH:w5.cell? ⟨Bf,1,none⟩=some (.int .i64 a0_1):=(bC Bb.out 1).trans rfl
   have BI:=bF Bb.out 0
   have BJ:=bF Bb.out 1
   go_wp2_with (first|((with_reducible refine gate_callee (f:=18) rfl ?_);refine goesL_ (some 13) rfl rfl Try.func18 (by kernel_rfl) rfl #[.agg #[.slice A0_0 l0_0.length c0_0,.int .i64 a0_1]] rfl (by (try simp only [lM,lC,lN]);first|done|rfl|(simp only [lD,lT];rfl)) ?_;(with_reducible refine (spec_QueueOk.calls k _ _ l0_0 a0_1 false _ ?side1 ?side2 A6.out).mono ?_);(case side1=>repeat (first|exact (cB HR0_0.out HB.out)|(with_reducible refine cA ?_ _)|(with_reducible refine cN ?_ _)|(with_reducible refine cD ?_)));(case side2=>exact HC0_0.out);rintro e w14 ⟨rfl,hb⟩;refine ⟨_,rfl,?_⟩;have n0_:=Am (bB (g:=Bf) (o:=.cells #[.slice A0_0 l0_0.length c0_0,.int .i64 a0_1] 25 (0,0)) (bL Bb.out) hb);have n1_:=Am (bB (g:=Bd) (o:=.cells #[.slice none 0 0,.int .i64 0] 25 (0,0)) (bL Ba.out) hb);have n2_:=Am (bP (by repeat (first|(with_reducible first|exact HB.out|apply oA|apply pN|apply o1|refine bS ?_ Bh.out|refine bS ?_ Bi.out)|exact HB.out)) hb);clear Bb Ba HB;revert n0_ n1_ n2_;intro Bb Ba HB;(try clear hb);(try clear hb2);(try clear hk);(try clear hi)))
   go_meet
   case rel=>exact ⟨_,(true),(by first|rfl|(simp;done)|(simp [*];done)),H',⟨by first|omega|exact Nat.le_refl _⟩,⟨by (with_reducible repeat (first|refine bN ?_ _|refine bD ?_|refine bA ?_ _));exact Bb.out⟩,⟨by (with_reducible repeat (first|refine bN ?_ _|refine bD ?_|refine bA ?_ _));exact Ba.out⟩,⟨by repeat (first|(with_reducible first|exact HB.out|apply oA|apply pN|apply o1|refine bS ?_ Bh.out|refine bS ?_ Bi.out)|exact HB.out)⟩⟩
  subst c7
  have H1:((spec_l6In.f a1 0 1000).bind fun t307=>(spec_QueueRun.j0 k a1 (!t307) l0_0 a0_1))=some (r1,r2,r3,r4):=by rw [if_pos rfl] at H;exact H
  clear H
  have H:=H1
  clear H1
  replace H:=oC H
  obtain ⟨t307,A80,H⟩:=H
  replace H:(spec_QueueRun.j0 k a1 (!t307) l0_0 a0_1)=some (r1,r2,r3,r4):=H
  have A8:=Am A80
  clear A80
  have H':=Am H
  clear H
  have Fd:=Bo.out
  have Fe:=Bp.out
  have BC:w5.cell? ⟨Bf,0,none⟩=some (.slice A0_0 l0_0.length c0_0):=(bC Bb.out 0).trans rfl
  have BD:w5.cell? ⟨Bf,1,none⟩=some (.int .i64 a0_1):=(bC Bb.out 1).trans rfl
  have BE:=bF Bb.out 0
  have BF:=bF Bb.out 1
  go_wp2_with (first|((with_reducible refine gate_callee (f:=18) rfl ?_);refine goesL_ (some 13) rfl rfl Try.func18 (by kernel_rfl) rfl #[.agg #[.slice A0_0 l0_0.length c0_0,.int .i64 a0_1]] rfl (by (try simp only [lM,lC,lN]);first|done|rfl|(simp only [lD,lT];rfl)) ?_;(with_reducible refine (spec_QueueOk.calls k _ _ l0_0 a0_1 true _ ?side1 ?side2 A6.out).mono ?_);(case side1=>repeat (first|exact (cB HR0_0.out HB.out)|(with_reducible refine cA ?_ _)|(with_reducible refine cN ?_ _)|(with_reducible refine cD ?_)));(case side2=>exact HC0_0.out);rintro e w11 ⟨rfl,hb⟩;refine ⟨_,rfl,?_⟩;have n0_:=Am (bB (g:=Bf) (o:=.cells #[.slice A0_0 l0_0.length c0_0,.int .i64 a0_1] 25 (0,0)) (bL Bb.out) hb);have n1_:=Am (bB (g:=Bd) (o:=.cells #[.slice none 0 0,.int .i64 0] 25 (0,0)) (bL Ba.out) hb);have n2_:=Am (bP (by repeat (first|(with_reducible first|exact HB.out|apply oA|apply pN|apply o1|refine bS ?_ Bh.out|refine bS ?_ Bi.out)|exact HB.out)) hb);clear Bb Ba HB;revert n0_ n1_ n2_;intro Bb Ba HB;(try clear hb);(try clear hb2);(try clear hk);(try clear hi))|(go_at_call 42;(with_reducible refine (spec_l6In.calls a1 0 1000 t307 _ A8.out).mono ?_);rintro e w' ⟨rfl,⟨nd,rfl⟩⟩))
  go_meet
  case rel=>exact ⟨_,(!t307),(by first|rfl|(simp;done)|(simp [*];done)),H',⟨by first|omega|exact Nat.le_refl _⟩,⟨by (with_reducible repeat (first|refine bN ?_ _|refine bD ?_|refine bA ?_ _));exact Bb.out⟩,⟨by (with_reducible repeat (first|refine bN ?_ _|refine bD ?_|refine bA ?_ _));exact Ba.out⟩,⟨by repeat (first|(with_reducible first|exact HB.out|apply oA|apply pN|apply o1|refine bS ?_ Bh.out|refine bS ?_ Bi.out)|exact HB.out)⟩⟩
 case rest =>
  clear HC3
  try clear c1
  try clear p2
  try clear c3
  try clear c7
  try clear c9
  try clear c12
  try clear BC
  try clear BD
  try clear BG
  try clear BH
  try clear BE
  try clear BF
  try clear BI
  try clear BJ
  obtain ⟨kq,x19_2,rfl,HA,B1,Bb,Ba,HB⟩:=hcut
  cases kq with
 |zero=>exact absurd HA.out (by simp [spec_QueueRun.j0])
 |succ kj2 =>
   have H:=HA.out
   clear HA
   simp only [spec_QueueRun.j0] at H
   by_cases c15:x19_2=true
   ·subst c15
    have H1:(some (([]:List (S40)),0,(([]:List Int)),false))=some (r1,r2,r3,r4):=by rw [if_pos rfl] at H;exact H
    clear H
    have H:=H1
    clear H1
    obtain ⟨y308,hy308⟩:∃ y_:List Int,y_=(([]:List Int)):=⟨_,rfl⟩
    replace H:(some (([]:List (S40)),0,y308,false))=some (r1,r2,r3,r4):=by first|(rw [hy308];with_reducible exact H)|(have H2_:=(Option.bind_some _ _).symm.trans H;rw [hy308];with_reducible exact H2_)|(have H2_:=(Option.bind_some _ _).symm.trans H;with_reducible exact H2_)|with_reducible exact H|(rw [hy308];exact H)|exact H
    have Ny308:=Am hy308
    clear hy308
    simp only [Option.some.injEq,Prod.mk.injEq] at H
    obtain ⟨rfl,rfl,rfl,rfl⟩:=H
    go_wp2_with (first|((with_reducible refine gate_dst (N:=21) rfl ?_);refine Kd.R_lit (Kd.int .i64) _ 3 ?hg (N:=21) ?hd (xs:=([]:List Int)) (inner:=[]) (ok:=fun _=>True) (okp:=fun _=>True) ?hr ?hp (fun _ hk=>hk) trivial (Below.refl _ _) (Nat.le_refl _) (by simp) ?_;(case hd=>rfl);(case hg=>rfl);(case hr=>first|(go_simp;done)|(go_simp;rfl));(case hp=>exact (Reps.none _ _));intro v309 w16 ho17 hb hg_ hnew_;clear hg_ hnew_;(first|rw [← Ny308.out] at ho17|(simp only [Int.reduceToNat] at ho17;rw [← Ny308.out] at ho17));have n0_:=Am (Kd.R_lower ho17 (bZ (by repeat (first|(with_reducible first|exact HB.out|apply oA|apply pN|apply o1|refine bS ?_ Bh.out|refine bS ?_ Bi.out)|exact HB.out))));have n1_:=Am (bB (g:=Bf) (o:=.cells #[.slice A0_0 l0_0.length c0_0,.int .i64 a0_1] 25 (0,0)) (bL Bb.out) hb);have n2_:=Am (bB (g:=Bd) (o:=.cells #[.slice none 0 0,.int .i64 0] 25 (0,0)) (bL Ba.out) hb);have n3_:=Am (bP (by repeat (first|(with_reducible first|exact HB.out|apply oA|apply pN|apply o1|refine bS ?_ Bh.out|refine bS ?_ Bi.out)|exact HB.out)) hb);clear Bb Ba HB;revert n0_ n1_ n2_ n3_;intro BW Bb Ba HB;clear hb ho17;have DC:=Bp.out;have DD:=Bo.out;have BK:w16.cell? ⟨Bd,0,none⟩=some (.slice none 0 0):=(bC Ba.out 0).trans rfl;have BL:w16.cell? ⟨Bd,1,none⟩=some (.int .i64 0):=(bC Ba.out 1).trans rfl;have BM:=bF Ba.out 0;have BN:=bF Ba.out 1))
    refine bodyPost_ret (results_ctt rfl _ _ Bd 25 #[.slice none 0 0,.int .i64 0] (0,0) _ rfl (by (with_reducible repeat (first|refine bN ?_ _|refine bD ?_|refine bA ?_ _));refine blk_put (cs:=#[.slice none 0 0,.int .i64 0]) ?_ 1 _ rfl;(with_reducible repeat (first|refine bN ?_ _|refine bD ?_|refine bA ?_ _));refine blk_put (cs:=#[.slice none 0 0,.int .i64 0]) ?_ 0 _ rfl;(with_reducible repeat (first|refine bN ?_ _|refine bD ?_|refine bA ?_ _));exact Ba.out) Try.underlying25 rfl (by kernel_rfl)) rfl ?_
    exact ⟨_,_,by first|rfl|(simp [errW_none,errW_some] <;> rfl)|(simp [*,errW_none,errW_some] <;> rfl),by first|exact Kd.R_nil _ _ _ _ _|exact Kd.N_nil _ _ _ _ _|exact Kd.V_nil _ _ _ _ _|exact Kd.Q_nil _ _ _ _ _|exact Kd.S_nil _ _ _ _ _,by (with_reducible repeat (first|apply rA|apply rN|apply rD));exact rM (rF (p:=⟨Bd,1,none⟩) (rF (p:=⟨Bd,0,none⟩) (rT BW.out Ba.out (by decide)) (fun _ hk=>hk.2) (.slice none 0 0)) (fun _ hk=>hk.2) (.int .i64 0)) (fun _ hk=>trivial),by repeat (first|(with_reducible first|exact HB.out|apply oA|apply pN|apply o1|refine bS ?_ Bh.out|refine bS ?_ Bi.out)|exact HB.out)⟩
   replace c15:=Bool.eq_false_iff.mpr c15
   subst c15
   have H1:((spec_l11Copy.f l0_0 a0_1).bind fun bt311=>(spec_QueueRun.l0 kj2 a1 (([]:List Int)) 0 bt311.1 bt311.2))=some (r1,r2,r3,r4):=by rw [if_neg (show ¬ (false=true) by decide)] at H;exact H
   clear H
   have H:=H1
   clear H1
   replace H:=oC H
   obtain ⟨⟨t311,t314⟩,A200,H⟩:=H
   replace H:(spec_QueueRun.l0 kj2 a1 (([]:List Int)) 0 t311 t314)=some (r1,r2,r3,r4):=H
   have A20:=Am A200
   clear A200
   obtain ⟨y316,hy316⟩:∃ y_:List Int,y_=(([]:List Int)):=⟨_,rfl⟩
   replace H:(spec_QueueRun.l0 kj2 a1 y316 0 t311 t314)=some (r1,r2,r3,r4):=by first|(rw [hy316];with_reducible exact H)|(have H2_:=(Option.bind_some _ _).symm.trans H;rw [hy316];with_reducible exact H2_)|(have H2_:=(Option.bind_some _ _).symm.trans H;with_reducible exact H2_)|with_reducible exact H|(rw [hy316];exact H)|exact H
   have Ny316:=Am hy316
   clear hy316
   have H':=Am H
   clear H
   have DE:=Bo.out
   have DF:=Bp.out
   have BO:wc.cell? ⟨Bf,0,none⟩=some (.slice A0_0 l0_0.length c0_0):=(bC Bb.out 0).trans rfl
   have BP:wc.cell? ⟨Bf,1,none⟩=some (.int .i64 a0_1):=(bC Bb.out 1).trans rfl
   have BQ:=bF Bb.out 0
   have BR:=bF Bb.out 1
   go_wp2_with (first|((with_reducible refine gate_callee (f:=40) rfl ?_);refine goesL_ (some 23) rfl rfl Try.func40 (by kernel_rfl) rfl #[.agg #[.slice A0_0 l0_0.length c0_0,.int .i64 a0_1]] rfl (by (try simp only [lM,lC,lN]);first|done|rfl|(simp only [lD,lT];rfl)) ?_;(with_reducible refine (spec_l11Copy.calls _ _ l0_0 a0_1 t311 t314 _ ?side1 ?side2 A20.out).mono ?_);(case side1=>repeat (first|exact (cB HR0_0.out HB.out)|(with_reducible refine cA ?_ _)|(with_reducible refine cN ?_ _)|(with_reducible refine cD ?_)));(case side2=>exact HC0_0.out);rintro e w23 ⟨v312,rfl,ho0,hb⟩;refine ⟨_,rfl,?_⟩;have n0_:=Am (Kd.R_lower ho0 (bZ (by repeat (first|(with_reducible first|exact HB.out|apply oA|apply pN|apply o1|refine bS ?_ Bh.out|refine bS ?_ Bi.out)|exact HB.out))));have n1_:=Am (bB (g:=Bf) (o:=.cells #[.slice A0_0 l0_0.length c0_0,.int .i64 a0_1] 25 (0,0)) (bL Bb.out) hb);have n2_:=Am (bB (g:=Bd) (o:=.cells #[.slice none 0 0,.int .i64 0] 25 (0,0)) (bL Ba.out) hb);have n3_:=Am (bP (by repeat (first|(with_reducible first|exact HB.out|apply oA|apply pN|apply o1|refine bS ?_ Bh.out|refine bS ?_ Bi.out)|exact HB.out)) hb);clear Bb Ba HB;revert n0_ n1_ n2_ n3_;intro Bv Bb Ba HB;(try clear hb);(try clear hb2);(try clear hk);(try clear hi);(try clear ho0))|((with_reducible refine gate_dst (N:=7) rfl ?_);refine box_event ?hg (N:=7) ?hd (cs:=#[.slice none 0 0,.int .i64 0]) (t:=25) ?hr ?_;(case hd=>rfl);(case hg=>rfl);(case hr=>first|(go_simp;done)|(go_simp;rfl));intro Be hg w24 hbox hb;have n0_:=Am (rB (rL Bv.out) hb);have n1_:=Am (bB (g:=Bf) (o:=.cells #[.slice A0_0 l0_0.length c0_0,.int .i64 a0_1] 25 (0,0)) (bL Bb.out) hb);have n2_:=Am (bB (g:=Bd) (o:=.cells #[.slice none 0 0,.int .i64 0] 25 (0,0)) (bL Ba.out) hb);have n3_:=Am (bP (by repeat (first|(with_reducible first|exact HB.out|apply oA|apply pN|apply o1|refine bS ?_ Bh.out|refine bS ?_ Bi.out)|exact HB.out)) hb);have n4_:=Am (hbox);have n5_:=Am ((by rw [hg];exact (bZ (by repeat (first|(with_reducible first|exact HB.out|apply oA|apply pN|apply o1|refine bS ?_ Bh.out|refine bS ?_ Bi.out)|exact HB.out))):w.heap.size≤Be));have n6_:=Am ((by rw [hg];exact (bZ (by repeat (first|(with_reducible first|exact HB.out|apply oA|apply pN|apply o1|refine bS ?_ Bh.out|refine bS ?_ Bi.out)|exact HB.out))):w.heap.size≤Be));have n7_:=Am ((by rw [hg];exact Nat.ne_of_lt (blk_lt (g:=Bf) (o:=.cells #[.slice A0_0 l0_0.length c0_0,.int .i64 a0_1] 25 (0,0)) (bL Bb.out)):Bf≠Be));have n8_:=Am ((by rw [hg];exact Nat.ne_of_gt (blk_lt (g:=Bf) (o:=.cells #[.slice A0_0 l0_0.length c0_0,.int .i64 a0_1] 25 (0,0)) (bL Bb.out)):Be≠Bf));have n9_:=Am ((by rw [hg];exact Nat.ne_of_lt (blk_lt (g:=Bd) (o:=.cells #[.slice none 0 0,.int .i64 0] 25 (0,0)) (bL Ba.out)):Bd≠Be));have n10_:=Am ((by rw [hg];exact Nat.ne_of_gt (blk_lt (g:=Bd) (o:=.cells #[.slice none 0 0,.int .i64 0] 25 (0,0)) (bL Ba.out)):Be≠Bd));clear Bv Bb Ba HB;revert n0_ n1_ n2_ n3_ n4_ n5_ n6_ n7_ n8_ n9_ n10_;intro Bv Bb Ba HB Bc DG Bm Bq Bw Br Bx;clear hb hbox hg;obtain ⟨Ao25,co25,eo25⟩:=Kd.R_slice Bv.out;subst eo25;have DH:=Bw.out;have DI:=Bq.out;have DJ:=Bx.out;have DK:=Br.out;have BS:w24.cell? ⟨Be,0,none⟩=some (.slice none 0 0):=(bC Bc.out 0).trans rfl;have BT:w24.cell? ⟨Be,1,none⟩=some (.int .i64 0):=(bC Bc.out 1).trans rfl;have BU:=bF Bc.out 0;have BV:=bF Bc.out 1)|((with_reducible refine gate_dst (N:=24) rfl ?_);refine Kd.R_lit (Kd.int .i64) _ 3 ?hg (N:=24) ?hd (xs:=([]:List Int)) (inner:=[]) (ok:=fun _=>True) (okp:=fun _=>True) ?hr ?hp (fun _ hk=>hk) trivial (Below.refl _ _) (Nat.le_refl _) (by simp) ?_;(case hd=>rfl);(case hg=>rfl);(case hr=>first|(go_simp;done)|(go_simp;rfl));(case hp=>exact (Reps.none _ _));intro v317 w29 ho30 hb hg_ hnew_;clear hg_ hnew_;(first|rw [← Ny316.out] at ho30|(simp only [Int.reduceToNat] at ho30;rw [← Ny316.out] at ho30));have n0_:=Am (rB (by (with_reducible repeat (first|apply rA|apply rN|apply rD));exact (rM (rF (p:=⟨Be,1,none⟩) (rF (p:=⟨Be,0,none⟩) (rT Bv.out Bc.out (by decide)) (fun _ hk=>hk.2) (.slice Ao25 t311.length co25)) (fun _ hk=>hk.2) (.int .i64 t314)) (fun _ h_=>h_.1))) hb);have n1_:=Am (Kd.R_lower ho30 (bZ (by repeat (first|(with_reducible first|exact HB.out|apply oA|apply pN|apply o1|refine bS ?_ Bh.out|refine bS ?_ Bi.out|refine bS ?_ Bm.out)|exact HB.out))));have n2_:=Am (bB (g:=Bf) (o:=.cells #[.slice A0_0 l0_0.length c0_0,.int .i64 a0_1] 25 (0,0)) (by (with_reducible repeat (first|refine bN ?_ _|refine bD ?_|refine bA ?_ _|refine blk_far ?_ Bq.out _));exact Bb.out) hb);have n3_:=Am (bB (g:=Bd) (o:=.cells #[.slice none 0 0,.int .i64 0] 25 (0,0)) (by (with_reducible repeat (first|refine bN ?_ _|refine bD ?_|refine bA ?_ _|refine blk_far ?_ Br.out _));exact Ba.out) hb);have n4_:=Am (bB (g:=Be) (o:=.cells #[.slice Ao25 t311.length co25,.int .i64 t314] 25 (0,0)) (by (with_reducible repeat (first|refine bN ?_ _|refine bD ?_|refine bA ?_ _));refine blk_put (cs:=#[.slice Ao25 t311.length co25,.int .i64 0]) ?_ 1 _ rfl;(with_reducible repeat (first|refine bN ?_ _|refine bD ?_|refine bA ?_ _));refine blk_put (cs:=#[.slice none 0 0,.int .i64 0]) ?_ 0 _ rfl;(with_reducible repeat (first|refine bN ?_ _|refine bD ?_|refine bA ?_ _));exact Bc.out) hb);have n5_:=Am (bP (by repeat (first|(with_reducible first|exact HB.out|apply oA|apply pN|apply o1|refine bS ?_ Bh.out|refine bS ?_ Bi.out|refine bS ?_ Bm.out)|exact HB.out)) hb);clear Bv Bb Ba Bc HB;revert n0_ n1_ n2_ n3_ n4_ n5_;intro Bv BX Bb Ba Bc HB;clear hb ho30))
   go_loopg [8,9] kj2 (fun kq v8 v9 w'=>∃ (x8_2:List Int) (x9_2:Int) (x306001_2:Int) (x316000_2:List (S40)) (x316001_2:Int) (u316000:Value),v9=.int .i64 x9_2∧Aside0 (spec_QueueRun.l0 kq a1 x8_2 x9_2 x316000_2 x316001_2=some (r1,r2,r3,r4))∧Aside0 (kq≤kj2)∧Aside0 (Kd.R (Kd.int .i64) 3 w' w.heap.size (fun _=>True) v8 x8_2)∧Aside0 (Kd.R k40 40 w' w.heap.size (fun _=>True) u316000 x316000_2)∧Aside0 (w'.heap[Bf]?=some (.cells #[(.slice A0_0 l0_0.length c0_0),.int .i64 a0_1] 25 (0,0)))∧Aside0 (w'.heap[Bd]?=some (.cells #[(.slice none 0 0),.int .i64 x306001_2] 25 (0,0)))∧Aside0 (w'.heap[Be]?=some (.cells #[u316000,.int .i64 x316001_2] 25 (0,0)))∧Aside0 (Below w.heap.size w w'))
   case atStart=>exact ⟨(y316),(0),(0),(t311),(t314),(.slice Ao25 t311.length co25),(by first|rfl|(simp;done)|(simp [*];done)),H',⟨Nat.le_refl _⟩,⟨by (with_reducible repeat (first|apply rA|apply rN|apply rD));exact BX.out⟩,⟨by (with_reducible repeat (first|apply rA|apply rN|apply rD));exact Bv.out⟩,⟨by (with_reducible repeat (first|refine bN ?_ _|refine bD ?_|refine bA ?_ _));exact Bb.out⟩,⟨by (with_reducible repeat (first|refine bN ?_ _|refine bD ?_|refine bA ?_ _));exact Ba.out⟩,⟨by (with_reducible repeat (first|refine bN ?_ _|refine bD ?_|refine bA ?_ _));exact Bc.out⟩,⟨by repeat (first|(with_reducible first|exact HB.out|apply oA|apply pN|apply o1|refine bS ?_ Bh.out|refine bS ?_ Bi.out|refine bS ?_ Bm.out)|exact HB.out)⟩⟩
   case round =>
    clear H'
    try clear c1
    try clear c2
    try clear p2
    try clear c3
    try clear c4
    try clear c7
    try clear c9
    try clear c12
    try clear c15
    try clear c18
    try clear c21
    try clear c26
    try clear c27
    try clear BC
    try clear BD
    try clear BG
    try clear BH
    try clear BK
    try clear BL
    try clear BO
    try clear BP
    try clear BS
    try clear BT
    try clear BE
    try clear BF
    try clear BI
    try clear BJ
    try clear BM
    try clear BN
    try clear BQ
    try clear BR
    try clear BU
    try clear BV
    try clear p2
    obtain ⟨x8_2,x9_2,x306001_2,x316000_2,x316001_2,u316000,rfl,HA,HK2,Bl,Bj,Bb,Ba,Bc,HB⟩:=hrel
    cases gk with
   |zero=>exact absurd HA.out (by simp [spec_QueueRun.l0])
   |succ k2 =>
     have H:=HA.out
     clear HA
     simp only [spec_QueueRun.l0] at H
     by_cases c31:x9_2<a1
     rotate_left
     ·rw [if_neg c31] at H
      have c31b0:decide (x9_2<a1)=false:=decide_eq_false c31
      clear c31
      simp only [Option.some.injEq,Prod.mk.injEq] at H
      obtain ⟨rfl,rfl,rfl,rfl⟩:=H
      have D7:=Bw.out
      have D8:=Bq.out
      have D9:=Bx.out
      have Fa:=Br.out
      have Dq:wr.cell? ⟨Be,0,none⟩=some (u316000):=(bC Bc.out 0).trans rfl
      have Dr:wr.cell? ⟨Be,1,none⟩=some (.int .i64 x316001_2):=(bC Bc.out 1).trans rfl
      have Ds:=bF Bc.out 0
      have Dt:=bF Bc.out 1
      obtain ⟨Ao66,co66,eo66⟩:=Kd.R_slice Bj.out
      subst eo66
      have Fb:=Bp.out
      have Fc:=Bo.out
      have Du:wr.cell? ⟨Bd,0,none⟩=some (.slice none 0 0):=(bC Ba.out 0).trans rfl
      have Dv:wr.cell? ⟨Bd,1,none⟩=some (.int .i64 x306001_2):=(bC Ba.out 1).trans rfl
      have Dw:=bF Ba.out 0
      have Dx:=bF Ba.out 1
      go_wp2
      refine bodyPost_ret (results_ctt rfl _ _ Bd 25 #[.slice Ao66 x316000_2.length co66,.int .i64 x316001_2] (0,0) _ rfl (by (with_reducible repeat (first|refine bN ?_ _|refine bD ?_|refine bA ?_ _));refine blk_put (cs:=#[.slice Ao66 x316000_2.length co66,.int .i64 x306001_2]) ?_ 1 _ rfl;(with_reducible repeat (first|refine bN ?_ _|refine bD ?_|refine bA ?_ _));refine blk_put (cs:=#[.slice none 0 0,.int .i64 x306001_2]) ?_ 0 _ rfl;(with_reducible repeat (first|refine bN ?_ _|refine bD ?_|refine bA ?_ _));exact Ba.out) Try.underlying25 rfl (by kernel_rfl)) rfl ?_
      exact ⟨_,_,by first|rfl|(simp [errW_none,errW_some] <;> rfl)|(simp [*,errW_none,errW_some] <;> rfl),by (with_reducible repeat (first|apply rA|apply rN|apply rD));exact rM (rF (p:=⟨Bd,1,none⟩) (rF (p:=⟨Bd,0,none⟩) (rT Bj.out Ba.out (by decide)) (fun _ hk=>hk.2) (.slice Ao66 x316000_2.length co66)) (fun _ hk=>hk.2) (.int .i64 x316001_2)) (fun _ hk=>trivial),by (with_reducible repeat (first|apply rA|apply rN|apply rD));exact rM (rF (p:=⟨Bd,1,none⟩) (rF (p:=⟨Bd,0,none⟩) (rT Bl.out Ba.out (by decide)) (fun _ hk=>hk.2) (.slice Ao66 x316000_2.length co66)) (fun _ hk=>hk.2) (.int .i64 x316001_2)) (fun _ hk=>trivial),by repeat (first|(with_reducible first|exact HB.out|apply oA|apply pN|apply o1|refine bS ?_ Bh.out|refine bS ?_ Bi.out|refine bS ?_ Bm.out)|exact HB.out)⟩

     rw [if_pos c31] at H
     have c31b0:decide (x9_2<a1)=true:=decide_eq_true c31
     clear c31
     replace H:=oC H
     obtain ⟨⟨t319,t322,t323⟩,A320,H⟩:=H
     replace H:(if t323<0 then (some (([]:List (S40)),0,(([]:List Int)),false)) else (if x8_2.length<17592186044416 then (spec_QueueRun.l0 k2 a1 (x8_2 ++ [t323]) (wrap64 (x9_2 + 1)) t319 t322) else (none)))=some (r1,r2,r3,r4):=H
     have A32:=Am A320
     clear A320
     by_cases c33:t323<0
     ·rw [if_pos c33] at H
      have c33b0:decide (t323<0)=true:=decide_eq_true c33
      clear c33
      obtain ⟨y325,hy325⟩:∃ y_:List Int,y_=(([]:List Int)):=⟨_,rfl⟩
      replace H:(some (([]:List (S40)),0,y325,false))=some (r1,r2,r3,r4):=by first|(rw [hy325];with_reducible exact H)|(have H2_:=(Option.bind_some _ _).symm.trans H;rw [hy325];with_reducible exact H2_)|(have H2_:=(Option.bind_some _ _).symm.trans H;with_reducible exact H2_)|with_reducible exact H|(rw [hy325];exact H)|exact H
      have Ny325:=Am hy325
      clear hy325
      simp only [Option.some.injEq,Prod.mk.injEq] at H
      obtain ⟨rfl,rfl,rfl,rfl⟩:=H
      have DL:=Bw.out
      have DM:=Bq.out
      have DN:=Bx.out
      have DO:=Br.out
      have B2:wr.cell? ⟨Be,0,none⟩=some (u316000):=(bC Bc.out 0).trans rfl
      have B3:wr.cell? ⟨Be,1,none⟩=some (.int .i64 x316001_2):=(bC Bc.out 1).trans rfl
      have B4:=bF Bc.out 0
      have B5:=bF Bc.out 1
      obtain ⟨Ao37,co37,eo37⟩:=Kd.R_slice Bj.out
      subst eo37
      go_wp2_with (first|((with_reducible refine gate_callee (f:=44) rfl ?_);refine goesL_ (some 32) rfl rfl Try.func44 (by kernel_rfl) rfl #[.agg #[.slice Ao37 x316000_2.length co37,.int .i64 x316001_2]] rfl (by (try simp only [lM,lC,lN]);first|done|rfl|(simp only [lD,lT];rfl)) ?_;(with_reducible refine (spec_l11Tick.calls k2 (fun k_=>some k_=(.slice Ao37 x316000_2.length co37:Value).ownBlock) (.slice Ao37 x316000_2.length co37) x316000_2 x316001_2 t319 t322 t323 w _ ?side1 ?side2 A32.out).mono ?_);(case side1=>repeat (first|(with_reducible first|exact HB.out|apply oA|apply pN|apply o1|refine bS ?_ Bh.out|refine bS ?_ Bi.out|refine bS ?_ Bm.out)|exact HB.out));(case side2=>exact Kd.R_tight rfl Bj.out);rintro e w38 ⟨v320,rfl,ho0,hb,hkp⟩;refine ⟨_,rfl,?_⟩;have n0_:=Am (rM (ok':=fun k_=>True) (Kd.R_keptB ((Kd.R_apart' Bl.out (Kd.R_typed Bj.out) (by decide))) hkp (fun k_ hk_ hs_=>(hk_.2) hs_)) (fun k_ hk_=>trivial));have n1_:=Am (blk_kept (bL Bb.out) hkp (fun hs_=>(fun e_=>(Kd.R_ne Bj.out Bb.out (by decide)) e_) hs_));have n2_:=Am (blk_kept (bL Ba.out) hkp (fun hs_=>(fun e_=>(Kd.R_ne Bj.out Ba.out (by decide)) e_) hs_));have n3_:=Am (blk_kept (bL Bc.out) hkp (fun hs_=>(fun e_=>(Kd.R_ne Bj.out Bc.out (by decide)) e_) hs_));have n4_:=Am (rM (ok':=fun k_=>True) ho0 (fun k_ hk_=>trivial));have n5_:=Am (hb);clear Bl Bb Ba Bc HB Bj;revert n0_ n1_ n2_ n3_ n4_ n5_;intro Bl Bb Ba Bc Bn HB;(try clear hb);(try clear hkp);(try clear ho0))|((with_reducible refine gate_dst (N:=10) rfl ?_);refine box_event ?hg (N:=10) ?hd (cs:=#[.slice none 0 0,.int .i64 0]) (t:=25) ?hr ?_;(case hd=>rfl);(case hg=>rfl);(case hr=>first|(go_simp;done)|(go_simp;rfl));intro Bg hg w39 hbox hb;have n0_:=Am (rB (rL Bl.out) hb);have n1_:=Am (rB (rL Bn.out) hb);have n2_:=Am (bB (g:=Bf) (o:=.cells #[.slice A0_0 l0_0.length c0_0,.int .i64 a0_1] 25 (0,0)) (bL Bb.out) hb);have n3_:=Am (bB (g:=Bd) (o:=.cells #[.slice none 0 0,.int .i64 x306001_2] 25 (0,0)) (bL Ba.out) hb);have n4_:=Am (bB (g:=Be) (o:=.cells #[.slice Ao37 x316000_2.length co37,.int .i64 x316001_2] 25 (0,0)) (bL Bc.out) hb);have n5_:=Am (bP (by repeat (first|(with_reducible first|exact HB.out|apply oA|apply pN|apply o1|refine bS ?_ Bh.out|refine bS ?_ Bi.out|refine bS ?_ Bm.out)|exact HB.out)) hb);have n6_:=Am (hbox);have n7_:=Am ((by rw [hg];exact (bZ (by repeat (first|(with_reducible first|exact HB.out|apply oA|apply pN|apply o1|refine bS ?_ Bh.out|refine bS ?_ Bi.out|refine bS ?_ Bm.out)|exact HB.out))):w.heap.size≤Bg));have n8_:=Am ((by rw [hg];exact (bZ (by repeat (first|(with_reducible first|exact HB.out|apply oA|apply pN|apply o1|refine bS ?_ Bh.out|refine bS ?_ Bi.out|refine bS ?_ Bm.out)|exact HB.out))):w.heap.size≤Bg));have n9_:=Am ((by rw [hg];exact Nat.ne_of_lt (blk_lt (g:=Bf) (o:=.cells #[.slice A0_0 l0_0.length c0_0,.int .i64 a0_1] 25 (0,0)) (bL Bb.out)):Bf≠Bg));have n10_:=Am ((by rw [hg];exact Nat.ne_of_gt (blk_lt (g:=Bf) (o:=.cells #[.slice A0_0 l0_0.length c0_0,.int .i64 a0_1] 25 (0,0)) (bL Bb.out)):Bg≠Bf));have n11_:=Am ((by rw [hg];exact Nat.ne_of_lt (blk_lt (g:=Bd) (o:=.cells #[.slice none 0 0,.int .i64 x306001_2] 25 (0,0)) (bL Ba.out)):Bd≠Bg));have n12_:=Am ((by rw [hg];exact Nat.ne_of_gt (blk_lt (g:=Bd) (o:=.cells #[.slice none 0 0,.int .i64 x306001_2] 25 (0,0)) (bL Ba.out)):Bg≠Bd));have n13_:=Am ((by rw [hg];exact Nat.ne_of_lt (blk_lt (g:=Be) (o:=.cells #[.slice Ao37 x316000_2.length co37,.int .i64 x316001_2] 25 (0,0)) (bL Bc.out)):Be≠Bg));have n14_:=Am ((by rw [hg];exact Nat.ne_of_gt (blk_lt (g:=Be) (o:=.cells #[.slice Ao37 x316000_2.length co37,.int .i64 x316001_2] 25 (0,0)) (bL Bc.out)):Bg≠Be));clear Bl Bn Bb Ba Bc HB;revert n0_ n1_ n2_ n3_ n4_ n5_ n6_ n7_ n8_ n9_ n10_ n11_ n12_ n13_ n14_;intro Bl Bn Bb Ba Bc HB Bk BY Bz Bs BA Bt BB Bu By;clear hb hbox hg;obtain ⟨Ao40,co40,eo40⟩:=Kd.R_slice Bn.out;subst eo40;have DP:=BA.out;have DQ:=Bs.out;have DR:=BB.out;have DS:=Bt.out;have DT:=By.out;have DU:=Bu.out;have B6:w39.cell? ⟨Bg,0,none⟩=some (.slice none 0 0):=(bC Bk.out 0).trans rfl;have B7:w39.cell? ⟨Bg,1,none⟩=some (.int .i64 0):=(bC Bk.out 1).trans rfl;have B8:=bF Bk.out 0;have B9:=bF Bk.out 1)|((with_reducible refine gate_dst (N:=38) rfl ?_);refine Kd.R_lit (Kd.int .i64) _ 3 ?hg (N:=38) ?hd (xs:=([]:List Int)) (inner:=[]) (ok:=fun _=>True) (okp:=fun _=>True) ?hr ?hp (fun _ hk=>hk) trivial (Below.refl _ _) (Nat.le_refl _) (by simp) ?_;(case hd=>rfl);(case hg=>rfl);(case hr=>first|(go_simp;done)|(go_simp;rfl));(case hp=>exact (Reps.none _ _));intro v326 w45 ho46 hb hg_ hnew_;clear hg_ hnew_;(first|rw [← Ny325.out] at ho46|(simp only [Int.reduceToNat] at ho46;rw [← Ny325.out] at ho46));have n0_:=Am (Kd.R_elder' (by (with_reducible repeat (first|apply rA|apply rN|apply rD));exact (rM (rF (p:=⟨Bg,1,none⟩) (rF (p:=⟨Bg,0,none⟩) (rT Bl.out Bk.out (by decide)) (fun _ hk=>hk.2) (.slice Ao40 t319.length co40)) (fun _ hk=>hk.2) (.int .i64 t322)) (fun _ h_=>h_.1))) (Kd.R_base ho46) hb);have n1_:=Am (rB (by (with_reducible repeat (first|apply rA|apply rN|apply rD));exact (rM (rF (p:=⟨Bg,1,none⟩) (rF (p:=⟨Bg,0,none⟩) (rT Bn.out Bk.out (by decide)) (fun _ hk=>hk.2) (.slice Ao40 t319.length co40)) (fun _ hk=>hk.2) (.int .i64 t322)) (fun _ h_=>h_.1))) hb);have n2_:=Am (Kd.R_lower (Kd.R_new' ho46 (Kd.R_lt (by (with_reducible repeat (first|apply rA|apply rN|apply rD));exact (rM (rF (p:=⟨Bg,1,none⟩) (rF (p:=⟨Bg,0,none⟩) (rT Bl.out Bk.out (by decide)) (fun _ hk=>hk.2) (.slice Ao40 t319.length co40)) (fun _ hk=>hk.2) (.int .i64 t322)) (fun _ h_=>h_.1))))) (bZ (by repeat (first|(with_reducible first|exact HB.out|apply oA|apply pN|apply o1|refine bS ?_ Bh.out|refine bS ?_ Bi.out|refine bS ?_ Bm.out|refine bS ?_ Bz.out)|exact HB.out))));have n3_:=Am (bB (g:=Bf) (o:=.cells #[.slice A0_0 l0_0.length c0_0,.int .i64 a0_1] 25 (0,0)) (by (with_reducible repeat (first|refine bN ?_ _|refine bD ?_|refine bA ?_ _|refine blk_far ?_ Bs.out _));exact Bb.out) hb);have n4_:=Am (bB (g:=Bd) (o:=.cells #[.slice none 0 0,.int .i64 x306001_2] 25 (0,0)) (by (with_reducible repeat (first|refine bN ?_ _|refine bD ?_|refine bA ?_ _|refine blk_far ?_ Bt.out _));exact Ba.out) hb);have n5_:=Am (bB (g:=Be) (o:=.cells #[.slice Ao37 x316000_2.length co37,.int .i64 x316001_2] 25 (0,0)) (by (with_reducible repeat (first|refine bN ?_ _|refine bD ?_|refine bA ?_ _|refine blk_far ?_ Bu.out _));exact Bc.out) hb);have n6_:=Am (bB (g:=Bg) (o:=.cells #[.slice Ao40 t319.length co40,.int .i64 t322] 25 (0,0)) (by (with_reducible repeat (first|refine bN ?_ _|refine bD ?_|refine bA ?_ _));refine blk_put (cs:=#[.slice Ao40 t319.length co40,.int .i64 0]) ?_ 1 _ rfl;(with_reducible repeat (first|refine bN ?_ _|refine bD ?_|refine bA ?_ _));refine blk_put (cs:=#[.slice none 0 0,.int .i64 0]) ?_ 0 _ rfl;(with_reducible repeat (first|refine bN ?_ _|refine bD ?_|refine bA ?_ _));exact Bk.out) hb);have n7_:=Am (bP (by repeat (first|(with_reducible first|exact HB.out|apply oA|apply pN|apply o1|refine bS ?_ Bh.out|refine bS ?_ Bi.out|refine bS ?_ Bm.out|refine bS ?_ Bz.out)|exact HB.out)) hb);clear Bl Bn Bb Ba Bc Bk HB;revert n0_ n1_ n2_ n3_ n4_ n5_ n6_ n7_;intro Bl Bn BZ Bb Ba Bc Bk HB;clear hb ho46;have DV:=Bp.out;have DW:=Bo.out;have Da:w45.cell? ⟨Bd,0,none⟩=some (.slice none 0 0):=(bC Ba.out 0).trans rfl;have Db:w45.cell? ⟨Bd,1,none⟩=some (.int .i64 x306001_2):=(bC Ba.out 1).trans rfl;have Dc:=bF Ba.out 0;have Dd:=bF Ba.out 1))
      refine bodyPost_ret (results_ctt rfl _ _ Bd 25 #[.slice none 0 0,.int .i64 0] (0,0) _ rfl (by (with_reducible repeat (first|refine bN ?_ _|refine bD ?_|refine bA ?_ _));refine blk_put (cs:=#[.slice none 0 0,.int .i64 x306001_2]) ?_ 1 _ rfl;(with_reducible repeat (first|refine bN ?_ _|refine bD ?_|refine bA ?_ _));refine blk_put (cs:=#[.slice none 0 0,.int .i64 x306001_2]) ?_ 0 _ rfl;(with_reducible repeat (first|refine bN ?_ _|refine bD ?_|refine bA ?_ _));exact Ba.out) Try.underlying25 rfl (by kernel_rfl)) rfl ?_
      exact ⟨_,_,by first|rfl|(simp [errW_none,errW_some] <;> rfl)|(simp [*,errW_none,errW_some] <;> rfl),by first|exact Kd.R_nil _ _ _ _ _|exact Kd.N_nil _ _ _ _ _|exact Kd.V_nil _ _ _ _ _|exact Kd.Q_nil _ _ _ _ _|exact Kd.S_nil _ _ _ _ _,by (with_reducible repeat (first|apply rA|apply rN|apply rD));exact rM (rF (p:=⟨Bd,1,none⟩) (rF (p:=⟨Bd,0,none⟩) (rT BZ.out Ba.out (by decide)) (fun _ hk=>hk.2) (.slice none 0 0)) (fun _ hk=>hk.2) (.int .i64 0)) (fun _ hk=>trivial),by repeat (first|(with_reducible first|exact HB.out|apply oA|apply pN|apply o1|refine bS ?_ Bh.out|refine bS ?_ Bi.out|refine bS ?_ Bm.out|refine bS ?_ Bz.out)|exact HB.out)⟩
     rw [if_neg c33] at H
     have c33b0:decide (t323<0)=false:=decide_eq_false c33
     clear c33
     by_cases c49:x8_2.length<17592186044416
     rotate_left
     ·rw [if_neg c49] at H
      exact absurd H (by simp)
     rw [if_pos c49] at H
     have LMc49:=Am c49
     clear c49
     obtain ⟨y328,hy328⟩:∃ y_:List Int,y_=(x8_2 ++ [t323]):=⟨_,rfl⟩
     replace H:(spec_QueueRun.l0 k2 a1 y328 (wrap64 (x9_2 + 1)) t319 t322)=some (r1,r2,r3,r4):=by first|(rw [hy328];with_reducible exact H)|(have H2_:=(Option.bind_some _ _).symm.trans H;rw [hy328];with_reducible exact H2_)|(have H2_:=(Option.bind_some _ _).symm.trans H;with_reducible exact H2_)|with_reducible exact H|(rw [hy328];exact H)|exact H
     have Ny328:=Am hy328
     clear hy328
     have H':=Am H
     clear H
     have DX:=Bw.out
     have DY:=Bq.out
     have DZ:=Bx.out
     have D0:=Br.out
     have De:wr.cell? ⟨Be,0,none⟩=some (u316000):=(bC Bc.out 0).trans rfl
     have Df:wr.cell? ⟨Be,1,none⟩=some (.int .i64 x316001_2):=(bC Bc.out 1).trans rfl
     have Dg:=bF Bc.out 0
     have Dh:=bF Bc.out 1
     obtain ⟨Ao53,co53,eo53⟩:=Kd.R_slice Bj.out
     subst eo53
     go_wp2_with (first|((with_reducible refine gate_callee (f:=44) rfl ?_);refine goesL_ (some 32) rfl rfl Try.func44 (by kernel_rfl) rfl #[.agg #[.slice Ao53 x316000_2.length co53,.int .i64 x316001_2]] rfl (by (try simp only [lM,lC,lN]);first|done|rfl|(simp only [lD,lT];rfl)) ?_;(with_reducible refine (spec_l11Tick.calls k2 (fun k_=>some k_=(.slice Ao53 x316000_2.length co53:Value).ownBlock) (.slice Ao53 x316000_2.length co53) x316000_2 x316001_2 t319 t322 t323 w _ ?side1 ?side2 A32.out).mono ?_);(case side1=>repeat (first|(with_reducible first|exact HB.out|apply oA|apply pN|apply o1|refine bS ?_ Bh.out|refine bS ?_ Bi.out|refine bS ?_ Bm.out)|exact HB.out));(case side2=>exact Kd.R_tight rfl Bj.out);rintro e w54 ⟨v320,rfl,ho0,hb,hkp⟩;refine ⟨_,rfl,?_⟩;have n0_:=Am (rM (ok':=fun k_=>True) (Kd.R_keptB ((Kd.R_apart' Bl.out (Kd.R_typed Bj.out) (by decide))) hkp (fun k_ hk_ hs_=>(hk_.2) hs_)) (fun k_ hk_=>trivial));have n1_:=Am (blk_kept (bL Bb.out) hkp (fun hs_=>(fun e_=>(Kd.R_ne Bj.out Bb.out (by decide)) e_) hs_));have n2_:=Am (blk_kept (bL Ba.out) hkp (fun hs_=>(fun e_=>(Kd.R_ne Bj.out Ba.out (by decide)) e_) hs_));have n3_:=Am (blk_kept (bL Bc.out) hkp (fun hs_=>(fun e_=>(Kd.R_ne Bj.out Bc.out (by decide)) e_) hs_));have n4_:=Am (rM (ok':=fun k_=>True) ho0 (fun k_ hk_=>trivial));have n5_:=Am (hb);clear Bl Bb Ba Bc HB Bj;revert n0_ n1_ n2_ n3_ n4_ n5_;intro Bl Bb Ba Bc Bn HB;(try clear hb);(try clear hkp);(try clear ho0))|((with_reducible refine gate_dst (N:=10) rfl ?_);refine box_event ?hg (N:=10) ?hd (cs:=#[.slice none 0 0,.int .i64 0]) (t:=25) ?hr ?_;(case hd=>rfl);(case hg=>rfl);(case hr=>first|(go_simp;done)|(go_simp;rfl));intro Bg hg w55 hbox hb;have n0_:=Am (rB (rL Bl.out) hb);have n1_:=Am (rB (rL Bn.out) hb);have n2_:=Am (bB (g:=Bf) (o:=.cells #[.slice A0_0 l0_0.length c0_0,.int .i64 a0_1] 25 (0,0)) (bL Bb.out) hb);have n3_:=Am (bB (g:=Bd) (o:=.cells #[.slice none 0 0,.int .i64 x306001_2] 25 (0,0)) (bL Ba.out) hb);have n4_:=Am (bB (g:=Be) (o:=.cells #[.slice Ao53 x316000_2.length co53,.int .i64 x316001_2] 25 (0,0)) (bL Bc.out) hb);have n5_:=Am (bP (by repeat (first|(with_reducible first|exact HB.out|apply oA|apply pN|apply o1|refine bS ?_ Bh.out|refine bS ?_ Bi.out|refine bS ?_ Bm.out)|exact HB.out)) hb);have n6_:=Am (hbox);have n7_:=Am ((by rw [hg];exact (bZ (by repeat (first|(with_reducible first|exact HB.out|apply oA|apply pN|apply o1|refine bS ?_ Bh.out|refine bS ?_ Bi.out|refine bS ?_ Bm.out)|exact HB.out))):w.heap.size≤Bg));have n8_:=Am ((by rw [hg];exact (bZ (by repeat (first|(with_reducible first|exact HB.out|apply oA|apply pN|apply o1|refine bS ?_ Bh.out|refine bS ?_ Bi.out|refine bS ?_ Bm.out)|exact HB.out))):w.heap.size≤Bg));have n9_:=Am ((by rw [hg];exact Nat.ne_of_lt (blk_lt (g:=Bf) (o:=.cells #[.slice A0_0 l0_0.length c0_0,.int .i64 a0_1] 25 (0,0)) (bL Bb.out)):Bf≠Bg));have n10_:=Am ((by rw [hg];exact Nat.ne_of_gt (blk_lt (g:=Bf) (o:=.cells #[.slice A0_0 l0_0.length c0_0,.int .i64 a0_1] 25 (0,0)) (bL Bb.out)):Bg≠Bf));have n11_:=Am ((by rw [hg];exact Nat.ne_of_lt (blk_lt (g:=Bd) (o:=.cells #[.slice none 0 0,.int .i64 x306001_2] 25 (0,0)) (bL Ba.out)):Bd≠Bg));have n12_:=Am ((by rw [hg];exact Nat.ne_of_gt (blk_lt (g:=Bd) (o:=.cells #[.slice none 0 0,.int .i64 x306001_2] 25 (0,0)) (bL Ba.out)):Bg≠Bd));have n13_:=Am ((by rw [hg];exact Nat.ne_of_lt (blk_lt (g:=Be) (o:=.cells #[.slice Ao53 x316000_2.length co53,.int .i64 x316001_2] 25 (0,0)) (bL Bc.out)):Be≠Bg));have n14_:=Am ((by rw [hg];exact Nat.ne_of_gt (blk_lt (g:=Be) (o:=.cells #[.slice Ao53 x316000_2.length co53,.int .i64 x316001_2] 25 (0,0)) (bL Bc.out)):Bg≠Be));clear Bl Bn Bb Ba Bc HB;revert n0_ n1_ n2_ n3_ n4_ n5_ n6_ n7_ n8_ n9_ n10_ n11_ n12_ n13_ n14_;intro Bl Bn Bb Ba Bc HB Bk BY Bz Bs BA Bt BB Bu By;clear hb hbox hg;obtain ⟨Ao56,co56,eo56⟩:=Kd.R_slice Bn.out;subst eo56;have D1:=BA.out;have D2:=Bs.out;have D3:=BB.out;have D4:=Bt.out;have D5:=By.out;have D6:=Bu.out;have Di:w55.cell? ⟨Bg,0,none⟩=some (.slice none 0 0):=(bC Bk.out 0).trans rfl;have Dj:w55.cell? ⟨Bg,1,none⟩=some (.int .i64 0):=(bC Bk.out 1).trans rfl;have Dk:=bF Bk.out 0;have Dl:=bF Bk.out 1;have Dm:w55.cell? ⟨Be,0,none⟩=some (.slice Ao53 x316000_2.length co53):=(bC Bc.out 0).trans rfl;have Dn:w55.cell? ⟨Be,1,none⟩=some (.int .i64 x316001_2):=(bC Bc.out 1).trans rfl;have Do:=bF Bc.out 0;have Dp:=bF Bc.out 1)|((with_reducible refine gate_builtin (b:=.append) (xs:=#[.tmp 40,.tmp 42]) rfl ?_);at_builtin;refine Kd.R_append (Kd.int .i64) (w0:=w) w.heap.size rfl (.tmp 40) (.tmp 42) 34 3 (.int .i64 0) 8 rfl Try.underlying34 info3 rfl (by decide) (by omega) u8 x8_2 t323 [.int .i64 t323] (fun _=>True) (fun _=>False) rfl (by first|(go_simp;done)|(go_simp;rfl)) ?aP (fun _ hk=>hk.elim) ?aF ?aO ?aB ?aS ?aL ?_;(case aP=>exact rfl);(case aB=>exact (by repeat (first|(with_reducible first|exact HB.out|apply oA|apply pN|apply o1|refine bS ?_ Bh.out|refine bS ?_ Bi.out|refine bS ?_ Bm.out|refine bS ?_ Bz.out)|exact HB.out)));(case aF=>exact (fun _ _=>trivial));(case aO=>exact (by (with_reducible repeat (first|apply rA|apply rN|apply rD));exact rM (rF (p:=⟨Be,1,none⟩) (rF (p:=⟨Be,0,none⟩) (rF (p:=⟨Bg,1,none⟩) (rF (p:=⟨Bg,0,none⟩) (rT (rT Bl.out Bk.out (by decide)) Bc.out (by decide)) (fun _ hk=>hk.1.2) (.slice Ao56 t319.length co56)) (fun _ hk=>hk.1.2) (.int .i64 t322)) (fun _ hk=>hk.2) (.slice Ao56 t319.length co56)) (fun _ hk=>hk.2) (.int .i64 t322)) (fun _ hk=>trivial)));(case aS=>exact (bZ (by repeat (first|(with_reducible first|exact HB.out|apply oA|apply pN|apply o1|refine bS ?_ Bh.out|refine bS ?_ Bi.out|refine bS ?_ Bm.out|refine bS ?_ Bz.out)|exact HB.out))));(case aL=>have:=LMc49.out;omega);intro v329 w62 ho hb hg hat;rw [← Ny328.out] at ho;have n0_:=Am (blk_grown (g:=Bf) (o:=.cells #[.slice A0_0 l0_0.length c0_0,.int .i64 a0_1] 25 (0,0)) (by (with_reducible repeat (first|refine bN ?_ _|refine bD ?_|refine bA ?_ _|refine blk_far ?_ Bq.out _|refine blk_far ?_ Bs.out _));exact Bb.out) hg (Kd.R_ne Bl.out Bb.out (by decide)));have n1_:=Am (blk_grown (g:=Bd) (o:=.cells #[.slice none 0 0,.int .i64 x306001_2] 25 (0,0)) (by (with_reducible repeat (first|refine bN ?_ _|refine bD ?_|refine bA ?_ _|refine blk_far ?_ Br.out _|refine blk_far ?_ Bt.out _));exact Ba.out) hg (Kd.R_ne Bl.out Ba.out (by decide)));have n2_:=Am (blk_grown (g:=Be) (o:=.cells #[.slice Ao56 t319.length co56,.int .i64 t322] 25 (0,0)) (by (with_reducible repeat (first|refine bN ?_ _|refine bD ?_|refine bA ?_ _));refine blk_put (cs:=#[.slice Ao56 t319.length co56,.int .i64 x316001_2]) ?_ 1 _ rfl;(with_reducible repeat (first|refine bN ?_ _|refine bD ?_|refine bA ?_ _));refine blk_put (cs:=#[.slice Ao53 x316000_2.length co53,.int .i64 x316001_2]) ?_ 0 _ rfl;(with_reducible repeat (first|refine bN ?_ _|refine bD ?_|refine bA ?_ _|refine blk_far ?_ Bu.out _));exact Bc.out) hg (Kd.R_ne Bl.out Bc.out (by decide)));have n3_:=Am (Kd.R_over' (by (with_reducible repeat (first|apply rA|apply rN|apply rD));exact (rM (rM (rF (p:=⟨Be,1,none⟩) (rF (p:=⟨Be,0,none⟩) (rF (p:=⟨Bg,1,none⟩) (rF (p:=⟨Bg,0,none⟩) (rT (rT Bn.out Bk.out (by decide)) Bc.out (by decide)) (fun _ hk=>hk.1.2) (.slice Ao56 t319.length co56)) (fun _ hk=>hk.1.2) (.int .i64 t322)) (fun _ hk=>hk.2) (.slice Ao56 t319.length co56)) (fun _ hk=>hk.2) (.int .i64 t322)) (fun _ h_=>h_.1)) (fun _ h_=>h_.1))) (Kd.R_typed (by (with_reducible repeat (first|apply rA|apply rN|apply rD));exact (rM (rM (rF (p:=⟨Be,1,none⟩) (rF (p:=⟨Be,0,none⟩) (rF (p:=⟨Bg,1,none⟩) (rF (p:=⟨Bg,0,none⟩) (rT (rT Bl.out Bk.out (by decide)) Bc.out (by decide)) (fun _ hk=>hk.1.2) (.slice Ao56 t319.length co56)) (fun _ hk=>hk.1.2) (.int .i64 t322)) (fun _ hk=>hk.2) (.slice Ao56 t319.length co56)) (fun _ hk=>hk.2) (.int .i64 t322)) (fun _ h_=>h_.1)) (fun _ h_=>h_.1)))) (by decide) hg);have n4_:=Am (blk_grown (g:=Bg) (o:=.cells #[.slice Ao56 t319.length co56,.int .i64 t322] 25 (0,0)) (by (with_reducible repeat (first|refine bN ?_ _|refine bD ?_|refine bA ?_ _|refine blk_far ?_ By.out _));refine blk_put (cs:=#[.slice Ao56 t319.length co56,.int .i64 0]) ?_ 1 _ rfl;(with_reducible repeat (first|refine bN ?_ _|refine bD ?_|refine bA ?_ _));refine blk_put (cs:=#[.slice none 0 0,.int .i64 0]) ?_ 0 _ rfl;(with_reducible repeat (first|refine bN ?_ _|refine bD ?_|refine bA ?_ _));exact Bk.out) hg (Kd.R_ne Bl.out Bk.out (by decide)));have n5_:=Am (hb);have n6_:=Am (ho);clear Bb Ba Bc Bn Bk HB Bl;revert n0_ n1_ n2_ n3_ n4_ n5_ n6_;intro Bb Ba Bc Bn Bk HB B0;clear ho hb hg hat))
     go_roundg k2
     case measure=>have:=B1.out;have:=HK2.out;omega
     case rel=>exact ⟨(y328),(wrap64 (x9_2 + 1)),(x306001_2),(t319),(t322),(.slice Ao56 t319.length co56),(by first|rfl|(simp;done)|(simp [*];done)),H',⟨by have:=B1.out;have:=HK2.out;omega⟩,⟨by (with_reducible repeat (first|apply rA|apply rN|apply rD));exact B0.out⟩,⟨by (with_reducible repeat (first|apply rA|apply rN|apply rD));exact Bn.out⟩,⟨by (with_reducible repeat (first|refine bN ?_ _|refine bD ?_|refine bA ?_ _));exact Bb.out⟩,⟨by (with_reducible repeat (first|refine bN ?_ _|refine bD ?_|refine bA ?_ _));exact Ba.out⟩,⟨by (with_reducible repeat (first|refine bN ?_ _|refine bD ?_|refine bA ?_ _));exact Bc.out⟩,⟨by repeat (first|(with_reducible first|exact HB.out|apply oA|apply pN|apply o1|refine bS ?_ Bh.out|refine bS ?_ Bi.out|refine bS ?_ Bm.out|refine bS ?_ Bz.out)|exact HB.out)⟩⟩
end Go.Proofs.Ytfhcgmfodfcpeaa.PFnQueueRun
