/- Proved here, without a condition beyond those that each theorem states: what the Go functions named below do is what the plain functions of the same names say. Written by xprint.py, a program of this session. -/
import Derived.Test.YtfhcgmfodfcpeaaPFnQueueRunx0
import Derived.Test.YtfhcgmfodfcpeaaPFnQueueRunx2
import Derived.Test.YtfhcgmfodfcpeaaPFnQueueRunx3
import Derived.Test.YtfhcgmfodfcpeaaPFnQueueRunx4
import Derived.Test.YtfhcgmfodfcpeaaPFnQueueRunx5
namespace Go.Proofs.Ytfhcgmfodfcpeaa.PFnQueueRun
open Go.RowKit Go.Proofs.YtfhcgmfodfcpeaaW.PrintWords Go.Proofs.YtfhcgmfodfcpeaaW.PrintLast Go.Proofs.YtfhcgmfodfcpeaaW.PrintMore
attribute [local go_sem] max2_int min2_int max_two min_two max_three min_three max_four min_four   -- for this text's walks alone
set_option linter.unusedVariables false
set_option linter.unusedSimpArgs false

attribute [local go_sem ↓] isSome_setCell_
/-! ### impl_QueueRun: function 19 -/
mutual
def impl_QueueRun.j0 : Nat → Int → Bool → List (S40) → Int → Option ((List (S40)) × Int × List Int × Bool)
|0, _, _, _, _ => none
|k + 1, x1, x19, x147000, x147001 => if x19 = true then (some (([] : List (S40)), 0, ([] : List Int), false)) else ((impl_Queue_clone.f x147000 x147001).bind fun bt150 => (impl_QueueRun.l0 k (([] : List Int)) x1 0 bt150.1 bt150.2))
def impl_QueueRun.l0 : Nat → List Int → Int → Int → List (S40) → Int → Option ((List (S40)) × Int × List Int × Bool)
|0, _, _, _, _, _ => none
|k + 1, x8, x24, x25, x155000, x155001 => if x25 < x24 then ((impl_QueueTick.f k x155000 x155001).bind fun bt158 => (if bt158.2.2.2 = true then (if x8.length < 17592186044416 then (impl_QueueRun.l0 k (x8 ++ [bt158.2.2.1]) x24 (wrap64 (x25 + 1)) bt158.1 bt158.2.1) else (none)) else (some (([] : List (S40)), 0, ([] : List Int), false)))) else (some (x155000, x155001, x8, true))
end
def impl_QueueRun.f (k : Nat) (l0_0 : List (S40)) (a0_1 : Int) (a1 : Int) : Option ((List (S40)) × Int × List Int × Bool) := (impl_QueueOk.f k l0_0 a0_1).bind fun t148 => (if t148 = true then ((impl_in.f a1 0 1000).bind fun t149 => (impl_QueueRun.j0 k a1 (!t149) l0_0 a0_1)) else (impl_QueueRun.j0 k a1 true l0_0 a0_1))
theorem impl_QueueRun.mono_l : ∀ k, (∀ y0 y1 y2 y3, LeO (impl_QueueRun.j0 k y0 y1 y2 y3) (impl_QueueRun.j0 (k + 1) y0 y1 y2 y3)) ∧ (∀ y0 y1 y2 y3 y4, LeO (impl_QueueRun.l0 k y0 y1 y2 y3 y4) (impl_QueueRun.l0 (k + 1) y0 y1 y2 y3 y4))
|0 => ⟨fun _ _ _ _ r h => by simp [impl_QueueRun.j0] at h, fun _ _ _ _ _ r h => by simp [impl_QueueRun.l0] at h⟩
|k + 1 => by
  obtain ⟨ih0, ih1⟩ := impl_QueueRun.mono_l k
  refine ⟨?_, ?_⟩
  ·intro y0 y1 y2 y3
   unfold impl_QueueRun.j0
   repeat' first
  |(with_reducible exact ih0 _ _ _ _)
  |(with_reducible exact ih1 _ _ _ _ _)
  |(with_reducible exact impl_QueueOk.mono _ _ _)
  |(with_reducible exact impl_QueueTick.mono _ _ _)
  |(with_reducible exact LeO.refl _)
  |(with_reducible exact LeO.none _)
  |(with_reducible refine LeO.ite ?_ ?_)
  |(with_reducible refine LeO.bind ?_ (fun _ => ?_))
  |exact ih0 _ _ _ _
  |exact ih1 _ _ _ _ _
  |exact impl_QueueOk.mono _ _ _
  |exact impl_QueueTick.mono _ _ _
  |exact LeO.none _
  |refine LeO.ite ?_ ?_
  |refine LeO.bind ?_ (fun _ => ?_)
  ·intro y0 y1 y2 y3 y4
   unfold impl_QueueRun.l0
   repeat' first
  |(with_reducible exact ih0 _ _ _ _)
  |(with_reducible exact ih1 _ _ _ _ _)
  |(with_reducible exact impl_QueueOk.mono _ _ _)
  |(with_reducible exact impl_QueueTick.mono _ _ _)
  |(with_reducible exact LeO.refl _)
  |(with_reducible exact LeO.none _)
  |(with_reducible refine LeO.ite ?_ ?_)
  |(with_reducible refine LeO.bind ?_ (fun _ => ?_))
  |exact ih0 _ _ _ _
  |exact ih1 _ _ _ _ _
  |exact impl_QueueOk.mono _ _ _
  |exact impl_QueueTick.mono _ _ _
  |exact LeO.none _
  |refine LeO.ite ?_ ?_
  |refine LeO.bind ?_ (fun _ => ?_)
theorem impl_QueueRun.mono : ∀ a0 a1 a2 k, LeO (impl_QueueRun.f k a0 a1 a2) (impl_QueueRun.f (k + 1) a0 a1 a2) := by
 intro a0 a1 a2 k
 obtain ⟨ih0, ih1⟩ := impl_QueueRun.mono_l k
 unfold impl_QueueRun.f
 repeat' first
  |(with_reducible exact ih0 _ _ _ _)
  |(with_reducible exact ih1 _ _ _ _ _)
  |(with_reducible exact impl_QueueOk.mono _ _ _)
  |(with_reducible exact impl_QueueTick.mono _ _ _)
  |(with_reducible exact LeO.refl _)
  |(with_reducible exact LeO.none _)
  |(with_reducible refine LeO.ite ?_ ?_)
  |(with_reducible refine LeO.bind ?_ (fun _ => ?_))
  |exact ih0 _ _ _ _
  |exact ih1 _ _ _ _ _
  |exact impl_QueueOk.mono _ _ _
  |exact impl_QueueTick.mono _ _ _
  |exact LeO.none _
  |refine LeO.ite ?_ ?_
  |refine LeO.bind ?_ (fun _ => ?_)
set_option maxHeartbeats 2000000 in
set_option maxRecDepth 100000 in
theorem impl_QueueRun.calls (k:Nat) (A0_0:Option Addr) (c0_0:Nat) (l0_0:List (S40)) (a0_1:Int) (a1:Int) (r1:List (S40)) (r2:Int) (r3:List Int) (r4:Bool) (w:World) (hr0_0:Kd.C k40 w A0_0 l0_0.length l0_0) (hc0_0:l0_0.length≤c0_0) (h:impl_QueueRun.f k l0_0 a0_1 a1=some (r1,r2,r3,r4)) :
  Calls Try.prog 19 #[.agg #[.slice A0_0 l0_0.length c0_0,.int .i64 a0_1],.int .i64 a1] w fun e w'=>∃ v0_ v2_:Value,e=.returned (.tuple #[.agg #[v0_,.int .i64 r2],v2_,.bool r4])∧Kd.R k40 40 w' w.heap.size (fun _=>True) v0_ r1∧Kd.R (Kd.int .i64) 3 w' w.heap.size (fun _=>True) v2_ r3∧Below w.heap.size w w':=by
 have hu25:=Try.underlying25
 have HR0_0:=Am hr0_0
 have HC0_0:=Am hc0_0
 clear hr0_0 hc0_0
 have HB:=Am (Below.refl w.heap.size w)
 have H:((impl_QueueOk.f k l0_0 a0_1).bind fun t148=>(if t148=true then ((impl_in.f a1 0 1000).bind fun t149=>(impl_QueueRun.j0 k a1 (!t149) l0_0 a0_1)) else (impl_QueueRun.j0 k a1 true l0_0 a0_1)))=some (r1,r2,r3,r4):=h
 clear h
 have HC3:=Am H
 clear H
 go_enter Try.func19,Try.ntmps19
 go_upto_region 1 with (first|((with_reducible refine gate_dst (N:=2) rfl ?_);refine box_event ?hg (N:=2) ?hd (cs:=#[.slice A0_0 l0_0.length c0_0,.int .i64 a0_1]) (t:=25) ?hr ?_;(case hd=>rfl);(case hg=>rfl);(case hr=>first|(go_simp;done)|(go_simp;rfl));intro Bh hg w4 hbox hb;have n0_:=Am (bP (by repeat (first|(with_reducible first|exact HB.out|apply oA|apply pN|apply o1)|exact HB.out)) hb);have n1_:=Am (hbox);have n2_:=Am ((by rw [hg];exact (bZ (by repeat (first|(with_reducible first|exact HB.out|apply oA|apply pN|apply o1)|exact HB.out))):w.heap.size≤Bh));have n3_:=Am ((by rw [hg];exact (bZ (by repeat (first|(with_reducible first|exact HB.out|apply oA|apply pN|apply o1)|exact HB.out))):w.heap.size≤Bh));clear HB;revert n0_ n1_ n2_ n3_;intro HB Ba Ds Bi;clear hb hbox hg)|((with_reducible refine gate_dst (N:=4) rfl ?_);refine box_event ?hg (N:=4) ?hd (cs:=#[.slice none 0 0,.int .i64 0]) (t:=25) ?hr ?_;(case hd=>rfl);(case hg=>rfl);(case hr=>first|(go_simp;done)|(go_simp;rfl));intro Bf hg w5 hbox hb;have n0_:=Am (bB (g:=Bh) (o:=.cells #[.slice A0_0 l0_0.length c0_0,.int .i64 a0_1] 25 (0,0)) (bL Ba.out) hb);have n1_:=Am (bP (by repeat (first|(with_reducible first|exact HB.out|apply oA|apply pN|apply o1|refine bS ?_ Bi.out)|exact HB.out)) hb);have n2_:=Am (hbox);have n3_:=Am ((by rw [hg];exact (bZ (by repeat (first|(with_reducible first|exact HB.out|apply oA|apply pN|apply o1|refine bS ?_ Bi.out)|exact HB.out))):w.heap.size≤Bf));have n4_:=Am ((by rw [hg];exact (bZ (by repeat (first|(with_reducible first|exact HB.out|apply oA|apply pN|apply o1|refine bS ?_ Bi.out)|exact HB.out))):w.heap.size≤Bf));have n5_:=Am ((by rw [hg];exact Nat.ne_of_lt (blk_lt (g:=Bh) (o:=.cells #[.slice A0_0 l0_0.length c0_0,.int .i64 a0_1] 25 (0,0)) (bL Ba.out)):Bh≠Bf));have n6_:=Am ((by rw [hg];exact Nat.ne_of_gt (blk_lt (g:=Bh) (o:=.cells #[.slice A0_0 l0_0.length c0_0,.int .i64 a0_1] 25 (0,0)) (bL Ba.out)):Bf≠Bh));clear Ba HB;revert n0_ n1_ n2_ n3_ n4_ n5_ n6_;intro Ba HB Bb Dt Bj Br Bs;clear hb hbox hg))
 (try simp only [Act.put,lA,lZ,lS])
 go_cut [19] (fun v19 wc=>∃ (kq:Nat) (x19_2:Bool),v19=.bool x19_2∧Aside0 (impl_QueueRun.j0 kq a1 x19_2 l0_0 a0_1=some (r1,r2,r3,r4))∧Aside0 (kq≤k)∧Aside0 (wc.heap[Bh]?=some (.cells #[(.slice A0_0 l0_0.length c0_0),.int .i64 a0_1] 25 (0,0)))∧Aside0 (wc.heap[Bf]?=some (.cells #[(.slice none 0 0),.int .i64 0] 25 (0,0)))∧Aside0 (Below w.heap.size w wc))
 case first =>
  have H:=HC3.out
  clear HC3
  replace H:=oC H
  obtain ⟨t148,A60,H⟩:=H
  replace H:(if t148=true then ((impl_in.f a1 0 1000).bind fun t149=>(impl_QueueRun.j0 k a1 (!t149) l0_0 a0_1)) else (impl_QueueRun.j0 k a1 true l0_0 a0_1))=some (r1,r2,r3,r4):=H
  have A6:=Am A60
  clear A60
  by_cases c7:t148=true
  rotate_left
  ·replace c7:=Bool.eq_false_iff.mpr c7
   subst c7
   have H1:(impl_QueueRun.j0 k a1 true l0_0 a0_1)=some (r1,r2,r3,r4):=by rw [if_neg (show ¬ (false=true) by decide)] at H;exact H
   clear H
   have H:=H1
   clear H1
   have H':=Am H
   clear H
   have Du:=Br.out
   have Dv:=Bs.out
   have BG:w5.cell? ⟨Bh,0,none⟩=some (.slice A0_0 l0_0.length c0_0):=(bC Ba.out 0).trans rfl
   have BH:w5.cell? ⟨Bh,1,none⟩=some (.int .i64 a0_1):=(bC Ba.out 1).trans rfl
   have BI:=bF Ba.out 0
   have BJ:=bF Ba.out 1
   go_wp2_with (first|((with_reducible refine gate_callee (f:=16) rfl ?_);refine goesL_ (some 13) rfl rfl Try.func16 (by kernel_rfl) rfl #[.agg #[.slice A0_0 l0_0.length c0_0,.int .i64 a0_1]] rfl (by (try simp only [lM,lC,lN]);first|done|rfl|(simp only [lD,lT];rfl)) ?_;(with_reducible refine (impl_QueueOk.calls k _ _ l0_0 a0_1 false _ ?side1 ?side2 A6.out).mono ?_);(case side1=>repeat (first|exact (cB HR0_0.out HB.out)|(with_reducible refine cA ?_ _)|(with_reducible refine cN ?_ _)|(with_reducible refine cD ?_)));(case side2=>exact HC0_0.out);rintro e w14 ⟨rfl,hb⟩;refine ⟨_,rfl,?_⟩;have n0_:=Am (bB (g:=Bh) (o:=.cells #[.slice A0_0 l0_0.length c0_0,.int .i64 a0_1] 25 (0,0)) (bL Ba.out) hb);have n1_:=Am (bB (g:=Bf) (o:=.cells #[.slice none 0 0,.int .i64 0] 25 (0,0)) (bL Bb.out) hb);have n2_:=Am (bP (by repeat (first|(with_reducible first|exact HB.out|apply oA|apply pN|apply o1|refine bS ?_ Bi.out|refine bS ?_ Bj.out)|exact HB.out)) hb);clear Ba Bb HB;revert n0_ n1_ n2_;intro Ba Bb HB;(try clear hb);(try clear hb2);(try clear hk);(try clear hi)))
   go_meet
   case rel=>exact ⟨_,(true),(by first|rfl|(simp;done)|(simp [*];done)),H',⟨by first|omega|exact Nat.le_refl _⟩,⟨by (with_reducible repeat (first|refine bN ?_ _|refine bD ?_|refine bA ?_ _));exact Ba.out⟩,⟨by (with_reducible repeat (first|refine bN ?_ _|refine bD ?_|refine bA ?_ _));exact Bb.out⟩,⟨by repeat (first|(with_reducible first|exact HB.out|apply oA|apply pN|apply o1|refine bS ?_ Bi.out|refine bS ?_ Bj.out)|exact HB.out)⟩⟩
  subst c7
  have H1:((impl_in.f a1 0 1000).bind fun t149=>(impl_QueueRun.j0 k a1 (!t149) l0_0 a0_1))=some (r1,r2,r3,r4):=by rw [if_pos rfl] at H;exact H
  clear H
  have H:=H1
  clear H1
  replace H:=oC H
  obtain ⟨t149,A80,H⟩:=H
  replace H:(impl_QueueRun.j0 k a1 (!t149) l0_0 a0_1)=some (r1,r2,r3,r4):=H
  have A8:=Am A80
  clear A80
  have H':=Am H
  clear H
  have D7:=Br.out
  have D8:=Bs.out
  have BC:w5.cell? ⟨Bh,0,none⟩=some (.slice A0_0 l0_0.length c0_0):=(bC Ba.out 0).trans rfl
  have BD:w5.cell? ⟨Bh,1,none⟩=some (.int .i64 a0_1):=(bC Ba.out 1).trans rfl
  have BE:=bF Ba.out 0
  have BF:=bF Ba.out 1
  go_wp2_with (first|((with_reducible refine gate_callee (f:=16) rfl ?_);refine goesL_ (some 13) rfl rfl Try.func16 (by kernel_rfl) rfl #[.agg #[.slice A0_0 l0_0.length c0_0,.int .i64 a0_1]] rfl (by (try simp only [lM,lC,lN]);first|done|rfl|(simp only [lD,lT];rfl)) ?_;(with_reducible refine (impl_QueueOk.calls k _ _ l0_0 a0_1 true _ ?side1 ?side2 A6.out).mono ?_);(case side1=>repeat (first|exact (cB HR0_0.out HB.out)|(with_reducible refine cA ?_ _)|(with_reducible refine cN ?_ _)|(with_reducible refine cD ?_)));(case side2=>exact HC0_0.out);rintro e w11 ⟨rfl,hb⟩;refine ⟨_,rfl,?_⟩;have n0_:=Am (bB (g:=Bh) (o:=.cells #[.slice A0_0 l0_0.length c0_0,.int .i64 a0_1] 25 (0,0)) (bL Ba.out) hb);have n1_:=Am (bB (g:=Bf) (o:=.cells #[.slice none 0 0,.int .i64 0] 25 (0,0)) (bL Bb.out) hb);have n2_:=Am (bP (by repeat (first|(with_reducible first|exact HB.out|apply oA|apply pN|apply o1|refine bS ?_ Bi.out|refine bS ?_ Bj.out)|exact HB.out)) hb);clear Ba Bb HB;revert n0_ n1_ n2_;intro Ba Bb HB;(try clear hb);(try clear hb2);(try clear hk);(try clear hi))|(go_at_call 41;(with_reducible refine (impl_in.calls a1 0 1000 t149 _ A8.out).mono ?_);rintro e w' ⟨rfl,⟨nd,rfl⟩⟩))
  go_meet
  case rel=>exact ⟨_,(!t149),(by first|rfl|(simp;done)|(simp [*];done)),H',⟨by first|omega|exact Nat.le_refl _⟩,⟨by (with_reducible repeat (first|refine bN ?_ _|refine bD ?_|refine bA ?_ _));exact Ba.out⟩,⟨by (with_reducible repeat (first|refine bN ?_ _|refine bD ?_|refine bA ?_ _));exact Bb.out⟩,⟨by repeat (first|(with_reducible first|exact HB.out|apply oA|apply pN|apply o1|refine bS ?_ Bi.out|refine bS ?_ Bj.out)|exact HB.out)⟩⟩
 case rest =>
  clear HC3
  try clear c1
  try clear p2
  try clear c7
  try clear c9
  try clear c12
  try clear BC
  try clear BD
  try clear BG
  try clear BH
  try clear BE
  try clear BF
  try clear BI
  try clear BJ
  obtain ⟨kq,x19_2,rfl,HA,BZ,Ba,Bb,HB⟩:=hcut
  cases kq with
 |zero=>exact absurd HA.out (by simp [impl_QueueRun.j0])
 |succ kj2 =>
   have H:=HA.out
   clear HA
   simp only [impl_QueueRun.j0] at H
   by_cases c15:x19_2=true
   ·subst c15
    have H1:(some (([]:List (S40)),0,([]:List Int),false))=some (r1,r2,r3,r4):=by rw [if_pos rfl] at H;exact H
    clear H
    have H:=H1
    clear H1
    simp only [Option.some.injEq,Prod.mk.injEq] at H
    obtain ⟨rfl,rfl,rfl,rfl⟩:=H
    have Dw:=Bs.out
    have Dx:=Br.out
    have BK:wc.cell? ⟨Bf,0,none⟩=some (.slice none 0 0):=(bC Bb.out 0).trans rfl
    have BL:wc.cell? ⟨Bf,1,none⟩=some (.int .i64 0):=(bC Bb.out 1).trans rfl
    have BM:=bF Bb.out 0
    have BN:=bF Bb.out 1
    go_wp2
    refine bodyPost_ret (results_ctt rfl _ _ Bf 25 #[.slice none 0 0,.int .i64 0] (0,0) _ rfl (by (with_reducible repeat (first|refine bN ?_ _|refine bD ?_|refine bA ?_ _));refine blk_put (cs:=#[.slice none 0 0,.int .i64 0]) ?_ 1 _ rfl;(with_reducible repeat (first|refine bN ?_ _|refine bD ?_|refine bA ?_ _));refine blk_put (cs:=#[.slice none 0 0,.int .i64 0]) ?_ 0 _ rfl;(with_reducible repeat (first|refine bN ?_ _|refine bD ?_|refine bA ?_ _));exact Bb.out) Try.underlying25 rfl (by kernel_rfl)) rfl ?_
    exact ⟨_,_,by first|rfl|(simp [errW_none,errW_some] <;> rfl)|(simp [*,errW_none,errW_some] <;> rfl),by first|exact Kd.R_nil _ _ _ _ _|exact Kd.N_nil _ _ _ _ _|exact Kd.V_nil _ _ _ _ _|exact Kd.Q_nil _ _ _ _ _|exact Kd.S_nil _ _ _ _ _,by first|exact Kd.R_nil _ _ _ _ _|exact Kd.N_nil _ _ _ _ _|exact Kd.V_nil _ _ _ _ _|exact Kd.Q_nil _ _ _ _ _|exact Kd.S_nil _ _ _ _ _,by repeat (first|(with_reducible first|exact HB.out|apply oA|apply pN|apply o1|refine bS ?_ Bi.out|refine bS ?_ Bj.out)|exact HB.out)⟩
   replace c15:=Bool.eq_false_iff.mpr c15
   subst c15
   have H1:((impl_Queue_clone.f l0_0 a0_1).bind fun bt150=>(impl_QueueRun.l0 kj2 (([]:List Int)) a1 0 bt150.1 bt150.2))=some (r1,r2,r3,r4):=by rw [if_neg (show ¬ (false=true) by decide)] at H;exact H
   clear H
   have H:=H1
   clear H1
   replace H:=oC H
   obtain ⟨⟨t150,t153⟩,A180,H⟩:=H
   replace H:(impl_QueueRun.l0 kj2 (([]:List Int)) a1 0 t150 t153)=some (r1,r2,r3,r4):=H
   have A18:=Am A180
   clear A180
   obtain ⟨y155,hy155⟩:∃ y_:List Int,y_=(([]:List Int)):=⟨_,rfl⟩
   replace H:(impl_QueueRun.l0 kj2 y155 a1 0 t150 t153)=some (r1,r2,r3,r4):=by first|(rw [hy155];with_reducible exact H)|(have H2_:=(Option.bind_some _ _).symm.trans H;rw [hy155];with_reducible exact H2_)|(have H2_:=(Option.bind_some _ _).symm.trans H;with_reducible exact H2_)|with_reducible exact H|(rw [hy155];exact H)|exact H
   have Ny155:=Am hy155
   clear hy155
   have H':=Am H
   clear H
   have Dy:=Br.out
   have Dz:=Bs.out
   have BO:wc.cell? ⟨Bh,0,none⟩=some (.slice A0_0 l0_0.length c0_0):=(bC Ba.out 0).trans rfl
   have BP:wc.cell? ⟨Bh,1,none⟩=some (.int .i64 a0_1):=(bC Ba.out 1).trans rfl
   have BQ:=bF Ba.out 0
   have BR:=bF Ba.out 1
   go_wp2_with (first|((with_reducible refine gate_callee (f:=37) rfl ?_);refine goesL_ (some 22) rfl rfl Try.func37 (by kernel_rfl) rfl #[.agg #[.slice A0_0 l0_0.length c0_0,.int .i64 a0_1]] rfl (by (try simp only [lM,lC,lN]);first|done|rfl|(simp only [lD,lT];rfl)) ?_;(with_reducible refine (impl_Queue_clone.calls _ _ l0_0 a0_1 t150 t153 _ ?side1 ?side2 A18.out).mono ?_);(case side1=>repeat (first|exact (cB HR0_0.out HB.out)|(with_reducible refine cA ?_ _)|(with_reducible refine cN ?_ _)|(with_reducible refine cD ?_)));(case side2=>exact HC0_0.out);rintro e w21 ⟨v151,rfl,ho0,hb⟩;refine ⟨_,rfl,?_⟩;have n0_:=Am (Kd.R_lower ho0 (bZ (by repeat (first|(with_reducible first|exact HB.out|apply oA|apply pN|apply o1|refine bS ?_ Bi.out|refine bS ?_ Bj.out)|exact HB.out))));have n1_:=Am (bB (g:=Bh) (o:=.cells #[.slice A0_0 l0_0.length c0_0,.int .i64 a0_1] 25 (0,0)) (bL Ba.out) hb);have n2_:=Am (bB (g:=Bf) (o:=.cells #[.slice none 0 0,.int .i64 0] 25 (0,0)) (bL Bb.out) hb);have n3_:=Am (bP (by repeat (first|(with_reducible first|exact HB.out|apply oA|apply pN|apply o1|refine bS ?_ Bi.out|refine bS ?_ Bj.out)|exact HB.out)) hb);clear Ba Bb HB;revert n0_ n1_ n2_ n3_;intro Bx Ba Bb HB;(try clear hb);(try clear hb2);(try clear hk);(try clear hi);(try clear ho0))|((with_reducible refine gate_dst (N:=7) rfl ?_);refine box_event ?hg (N:=7) ?hd (cs:=#[.slice none 0 0,.int .i64 0]) (t:=25) ?hr ?_;(case hd=>rfl);(case hg=>rfl);(case hr=>first|(go_simp;done)|(go_simp;rfl));intro Bg hg w22 hbox hb;have n0_:=Am (rB (rL Bx.out) hb);have n1_:=Am (bB (g:=Bh) (o:=.cells #[.slice A0_0 l0_0.length c0_0,.int .i64 a0_1] 25 (0,0)) (bL Ba.out) hb);have n2_:=Am (bB (g:=Bf) (o:=.cells #[.slice none 0 0,.int .i64 0] 25 (0,0)) (bL Bb.out) hb);have n3_:=Am (bP (by repeat (first|(with_reducible first|exact HB.out|apply oA|apply pN|apply o1|refine bS ?_ Bi.out|refine bS ?_ Bj.out)|exact HB.out)) hb);have n4_:=Am (hbox);have n5_:=Am ((by rw [hg];exact (bZ (by repeat (first|(with_reducible first|exact HB.out|apply oA|apply pN|apply o1|refine bS ?_ Bi.out|refine bS ?_ Bj.out)|exact HB.out))):w.heap.size≤Bg));have n6_:=Am ((by rw [hg];exact (bZ (by repeat (first|(with_reducible first|exact HB.out|apply oA|apply pN|apply o1|refine bS ?_ Bi.out|refine bS ?_ Bj.out)|exact HB.out))):w.heap.size≤Bg));have n7_:=Am ((by rw [hg];exact Nat.ne_of_lt (blk_lt (g:=Bh) (o:=.cells #[.slice A0_0 l0_0.length c0_0,.int .i64 a0_1] 25 (0,0)) (bL Ba.out)):Bh≠Bg));have n8_:=Am ((by rw [hg];exact Nat.ne_of_gt (blk_lt (g:=Bh) (o:=.cells #[.slice A0_0 l0_0.length c0_0,.int .i64 a0_1] 25 (0,0)) (bL Ba.out)):Bg≠Bh));have n9_:=Am ((by rw [hg];exact Nat.ne_of_lt (blk_lt (g:=Bf) (o:=.cells #[.slice none 0 0,.int .i64 0] 25 (0,0)) (bL Bb.out)):Bf≠Bg));have n10_:=Am ((by rw [hg];exact Nat.ne_of_gt (blk_lt (g:=Bf) (o:=.cells #[.slice none 0 0,.int .i64 0] 25 (0,0)) (bL Bb.out)):Bg≠Bf));clear Bx Ba Bb HB;revert n0_ n1_ n2_ n3_ n4_ n5_ n6_ n7_ n8_ n9_ n10_;intro Bx Ba Bb HB Bd DA Bn Bp Bt Bq Bu;clear hb hbox hg;obtain ⟨Ao23,co23,eo23⟩:=Kd.R_slice Bx.out;subst eo23;have DB:=Bt.out;have DC:=Bp.out;have DD:=Bu.out;have DE:=Bq.out;have BS:w22.cell? ⟨Bg,0,none⟩=some (.slice none 0 0):=(bC Bd.out 0).trans rfl;have BT:w22.cell? ⟨Bg,1,none⟩=some (.int .i64 0):=(bC Bd.out 1).trans rfl;have BU:=bF Bd.out 0;have BV:=bF Bd.out 1)|((with_reducible refine gate_dst (N:=23) rfl ?_);refine Kd.R_lit (Kd.int .i64) _ 3 ?hg (N:=23) ?hd (xs:=([]:List Int)) (inner:=[]) (ok:=fun _=>True) (okp:=fun _=>True) ?hr ?hp (fun _ hk=>hk) trivial (Below.refl _ _) (Nat.le_refl _) (by simp) ?_;(case hd=>rfl);(case hg=>rfl);(case hr=>first|(go_simp;done)|(go_simp;rfl));(case hp=>exact (Reps.none _ _));intro v156 w27 ho28 hb hg_ hnew_;clear hg_ hnew_;(first|rw [← Ny155.out] at ho28|(simp only [Int.reduceToNat] at ho28;rw [← Ny155.out] at ho28));have n0_:=Am (rB (by (with_reducible repeat (first|apply rA|apply rN|apply rD));exact (rM (rF (p:=⟨Bg,1,none⟩) (rF (p:=⟨Bg,0,none⟩) (rT Bx.out Bd.out (by decide)) (fun _ hk=>hk.2) (.slice Ao23 t150.length co23)) (fun _ hk=>hk.2) (.int .i64 t153)) (fun _ h_=>h_.1))) hb);have n1_:=Am (Kd.R_lower ho28 (bZ (by repeat (first|(with_reducible first|exact HB.out|apply oA|apply pN|apply o1|refine bS ?_ Bi.out|refine bS ?_ Bj.out|refine bS ?_ Bn.out)|exact HB.out))));have n2_:=Am (bB (g:=Bh) (o:=.cells #[.slice A0_0 l0_0.length c0_0,.int .i64 a0_1] 25 (0,0)) (by (with_reducible repeat (first|refine bN ?_ _|refine bD ?_|refine bA ?_ _|refine blk_far ?_ Bp.out _));exact Ba.out) hb);have n3_:=Am (bB (g:=Bf) (o:=.cells #[.slice none 0 0,.int .i64 0] 25 (0,0)) (by (with_reducible repeat (first|refine bN ?_ _|refine bD ?_|refine bA ?_ _|refine blk_far ?_ Bq.out _));exact Bb.out) hb);have n4_:=Am (bB (g:=Bg) (o:=.cells #[.slice Ao23 t150.length co23,.int .i64 t153] 25 (0,0)) (by (with_reducible repeat (first|refine bN ?_ _|refine bD ?_|refine bA ?_ _));refine blk_put (cs:=#[.slice Ao23 t150.length co23,.int .i64 0]) ?_ 1 _ rfl;(with_reducible repeat (first|refine bN ?_ _|refine bD ?_|refine bA ?_ _));refine blk_put (cs:=#[.slice none 0 0,.int .i64 0]) ?_ 0 _ rfl;(with_reducible repeat (first|refine bN ?_ _|refine bD ?_|refine bA ?_ _));exact Bd.out) hb);have n5_:=Am (bP (by repeat (first|(with_reducible first|exact HB.out|apply oA|apply pN|apply o1|refine bS ?_ Bi.out|refine bS ?_ Bj.out|refine bS ?_ Bn.out)|exact HB.out)) hb);clear Bx Ba Bb Bd HB;revert n0_ n1_ n2_ n3_ n4_ n5_;intro Bx BW Ba Bb Bd HB;clear hb ho28))
   go_loopg [8,25] kj2 (fun kq v8 v25 w'=>∃ (x8_2:List Int) (x25_2:Int) (x148001_2:Int) (x155000_2:List (S40)) (x155001_2:Int) (u155000:Value),v25=.int .i64 x25_2∧Aside0 (impl_QueueRun.l0 kq x8_2 a1 x25_2 x155000_2 x155001_2=some (r1,r2,r3,r4))∧Aside0 (kq≤kj2)∧Aside0 (Kd.R (Kd.int .i64) 3 w' w.heap.size (fun _=>True) v8 x8_2)∧Aside0 (Kd.R k40 40 w' w.heap.size (fun _=>True) u155000 x155000_2)∧Aside0 (w'.heap[Bh]?=some (.cells #[(.slice A0_0 l0_0.length c0_0),.int .i64 a0_1] 25 (0,0)))∧Aside0 (w'.heap[Bf]?=some (.cells #[(.slice none 0 0),.int .i64 x148001_2] 25 (0,0)))∧Aside0 (w'.heap[Bg]?=some (.cells #[u155000,.int .i64 x155001_2] 25 (0,0)))∧Aside0 (Below w.heap.size w w'))
   case atStart=>exact ⟨(y155),(0),(0),(t150),(t153),(.slice Ao23 t150.length co23),(by first|rfl|(simp;done)|(simp [*];done)),H',⟨Nat.le_refl _⟩,⟨by (with_reducible repeat (first|apply rA|apply rN|apply rD));exact BW.out⟩,⟨by (with_reducible repeat (first|apply rA|apply rN|apply rD));exact Bx.out⟩,⟨by (with_reducible repeat (first|refine bN ?_ _|refine bD ?_|refine bA ?_ _));exact Ba.out⟩,⟨by (with_reducible repeat (first|refine bN ?_ _|refine bD ?_|refine bA ?_ _));exact Bb.out⟩,⟨by (with_reducible repeat (first|refine bN ?_ _|refine bD ?_|refine bA ?_ _));exact Bd.out⟩,⟨by repeat (first|(with_reducible first|exact HB.out|apply oA|apply pN|apply o1|refine bS ?_ Bi.out|refine bS ?_ Bj.out|refine bS ?_ Bn.out)|exact HB.out)⟩⟩
   case round =>
    clear H'
    try clear c1
    try clear c2
    try clear p2
    try clear c3
    try clear c7
    try clear c9
    try clear c12
    try clear c15
    try clear c16
    try clear c19
    try clear c24
    try clear c25
    try clear BC
    try clear BD
    try clear BG
    try clear BH
    try clear BK
    try clear BL
    try clear BO
    try clear BP
    try clear BS
    try clear BT
    try clear BE
    try clear BF
    try clear BI
    try clear BJ
    try clear BM
    try clear BN
    try clear BQ
    try clear BR
    try clear BU
    try clear BV
    try clear p2
    obtain ⟨x8_2,x25_2,x148001_2,x155000_2,x155001_2,u155000,rfl,HA,HK2,Bl,Bc,Ba,Bb,Bd,HB⟩:=hrel
    cases gk with
   |zero=>exact absurd HA.out (by simp [impl_QueueRun.l0])
   |succ k2 =>
     have H:=HA.out
     clear HA
     simp only [impl_QueueRun.l0] at H
     by_cases c29:x25_2<a1
     rotate_left
     ·rw [if_neg c29] at H
      have c29b0:decide (x25_2<a1)=false:=decide_eq_false c29
      clear c29
      simp only [Option.some.injEq,Prod.mk.injEq] at H
      obtain ⟨rfl,rfl,rfl,rfl⟩:=H
      have D1:=Bt.out
      have D2:=Bp.out
      have D3:=Bu.out
      have D4:=Bq.out
      have Dk:wr.cell? ⟨Bg,0,none⟩=some (u155000):=(bC Bd.out 0).trans rfl
      have Dl:wr.cell? ⟨Bg,1,none⟩=some (.int .i64 x155001_2):=(bC Bd.out 1).trans rfl
      have Dm:=bF Bd.out 0
      have Dn:=bF Bd.out 1
      obtain ⟨Ao65,co65,eo65⟩:=Kd.R_slice Bc.out
      subst eo65
      have D5:=Bs.out
      have D6:=Br.out
      have Do:wr.cell? ⟨Bf,0,none⟩=some (.slice none 0 0):=(bC Bb.out 0).trans rfl
      have Dp:wr.cell? ⟨Bf,1,none⟩=some (.int .i64 x148001_2):=(bC Bb.out 1).trans rfl
      have Dq:=bF Bb.out 0
      have Dr:=bF Bb.out 1
      go_wp2
      refine bodyPost_ret (results_ctt rfl _ _ Bf 25 #[.slice Ao65 x155000_2.length co65,.int .i64 x155001_2] (0,0) _ rfl (by (with_reducible repeat (first|refine bN ?_ _|refine bD ?_|refine bA ?_ _));refine blk_put (cs:=#[.slice Ao65 x155000_2.length co65,.int .i64 x148001_2]) ?_ 1 _ rfl;(with_reducible repeat (first|refine bN ?_ _|refine bD ?_|refine bA ?_ _));refine blk_put (cs:=#[.slice none 0 0,.int .i64 x148001_2]) ?_ 0 _ rfl;(with_reducible repeat (first|refine bN ?_ _|refine bD ?_|refine bA ?_ _));exact Bb.out) Try.underlying25 rfl (by kernel_rfl)) rfl ?_
      exact ⟨_,_,by first|rfl|(simp [errW_none,errW_some] <;> rfl)|(simp [*,errW_none,errW_some] <;> rfl),by (with_reducible repeat (first|apply rA|apply rN|apply rD));exact rM (rF (p:=⟨Bf,1,none⟩) (rF (p:=⟨Bf,0,none⟩) (rT Bc.out Bb.out (by decide)) (fun _ hk=>hk.2) (.slice Ao65 x155000_2.length co65)) (fun _ hk=>hk.2) (.int .i64 x155001_2)) (fun _ hk=>trivial),by (with_reducible repeat (first|apply rA|apply rN|apply rD));exact rM (rF (p:=⟨Bf,1,none⟩) (rF (p:=⟨Bf,0,none⟩) (rT Bl.out Bb.out (by decide)) (fun _ hk=>hk.2) (.slice Ao65 x155000_2.length co65)) (fun _ hk=>hk.2) (.int .i64 x155001_2)) (fun _ hk=>trivial),by repeat (first|(with_reducible first|exact HB.out|apply oA|apply pN|apply o1|refine bS ?_ Bi.out|refine bS ?_ Bj.out|refine bS ?_ Bn.out)|exact HB.out)⟩

     rw [if_pos c29] at H
     have c29b0:decide (x25_2<a1)=true:=decide_eq_true c29
     clear c29
     replace H:=oC H
     obtain ⟨⟨t158,t161,t162,t163⟩,A300,H⟩:=H
     replace H:(if t163=true then (if x8_2.length<17592186044416 then (impl_QueueRun.l0 k2 (x8_2 ++ [t162]) a1 (wrap64 (x25_2 + 1)) t158 t161) else (none)) else (some (([]:List (S40)),0,([]:List Int),false)))=some (r1,r2,r3,r4):=H
     have A30:=Am A300
     clear A300
     by_cases c31:t163=true
     rotate_left
     ·replace c31:=Bool.eq_false_iff.mpr c31
      subst c31
      have H1:(some (([]:List (S40)),0,([]:List Int),false))=some (r1,r2,r3,r4):=by rw [if_neg (show ¬ (false=true) by decide)] at H;exact H
      clear H
      have H:=H1
      clear H1
      simp only [Option.some.injEq,Prod.mk.injEq] at H
      obtain ⟨rfl,rfl,rfl,rfl⟩:=H
      have DP:=Bt.out
      have DQ:=Bp.out
      have DR:=Bu.out
      have DS:=Bq.out
      have B8:wr.cell? ⟨Bg,0,none⟩=some (u155000):=(bC Bd.out 0).trans rfl
      have B9:wr.cell? ⟨Bg,1,none⟩=some (.int .i64 x155001_2):=(bC Bd.out 1).trans rfl
      have Da:=bF Bd.out 0
      have Db:=bF Bd.out 1
      obtain ⟨Ao52,co52,eo52⟩:=Kd.R_slice Bc.out
      subst eo52
      go_wp2_with (first|((with_reducible refine gate_callee (f:=21) rfl ?_);refine goesL_ (some 29) rfl rfl Try.func21 (by kernel_rfl) rfl #[.agg #[.slice Ao52 x155000_2.length co52,.int .i64 x155001_2]] rfl (by (try simp only [lM,lC,lN]);first|done|rfl|(simp only [lD,lT];rfl)) ?_;(with_reducible refine (impl_QueueTick.calls k2 _ _ x155000_2 x155001_2 t158 t161 t162 false _ ?side1 ?side2 A30.out).mono ?_);(case side1=>repeat (first|exact (Kd.R_reads' Bc.out).2.2|(with_reducible refine cA ?_ _)|(with_reducible refine cN ?_ _)|(with_reducible refine cD ?_)));(case side2=>exact (Kd.R_reads' Bc.out).2.1);rintro e w53 ⟨v159,rfl,ho0,hb⟩;refine ⟨_,rfl,?_⟩;have n0_:=Am (rB (rL Bl.out) hb);have n1_:=Am (Kd.R_elder' (rL Bc.out) (Kd.R_base ho0) hb);have n2_:=Am (Kd.R_lower (Kd.R_new' ho0 (Kd.R_lt (rL Bc.out))) (bZ (by repeat (first|(with_reducible first|exact HB.out|apply oA|apply pN|apply o1|refine bS ?_ Bi.out|refine bS ?_ Bj.out|refine bS ?_ Bn.out)|exact HB.out))));have n3_:=Am (bB (g:=Bh) (o:=.cells #[.slice A0_0 l0_0.length c0_0,.int .i64 a0_1] 25 (0,0)) (bL Ba.out) hb);have n4_:=Am (bB (g:=Bf) (o:=.cells #[.slice none 0 0,.int .i64 x148001_2] 25 (0,0)) (bL Bb.out) hb);have n5_:=Am (bB (g:=Bg) (o:=.cells #[.slice Ao52 x155000_2.length co52,.int .i64 x155001_2] 25 (0,0)) (bL Bd.out) hb);have n6_:=Am (bP (by repeat (first|(with_reducible first|exact HB.out|apply oA|apply pN|apply o1|refine bS ?_ Bi.out|refine bS ?_ Bj.out|refine bS ?_ Bn.out)|exact HB.out)) hb);clear Bl Bc Ba Bb Bd HB;revert n0_ n1_ n2_ n3_ n4_ n5_ n6_;intro Bl Bc Bm Ba Bb Bd HB;(try clear hb);(try clear hb2);(try clear hk);(try clear hi);(try clear ho0))|((with_reducible refine gate_dst (N:=9) rfl ?_);refine box_event ?hg (N:=9) ?hd (cs:=#[.slice none 0 0,.int .i64 0]) (t:=25) ?hr ?_;(case hd=>rfl);(case hg=>rfl);(case hr=>first|(go_simp;done)|(go_simp;rfl));intro Be hg w54 hbox hb;have n0_:=Am (rB (rL Bl.out) hb);have n1_:=Am (rB (rL Bc.out) hb);have n2_:=Am (rB (rL Bm.out) hb);have n3_:=Am (bB (g:=Bh) (o:=.cells #[.slice A0_0 l0_0.length c0_0,.int .i64 a0_1] 25 (0,0)) (bL Ba.out) hb);have n4_:=Am (bB (g:=Bf) (o:=.cells #[.slice none 0 0,.int .i64 x148001_2] 25 (0,0)) (bL Bb.out) hb);have n5_:=Am (bB (g:=Bg) (o:=.cells #[.slice Ao52 x155000_2.length co52,.int .i64 x155001_2] 25 (0,0)) (bL Bd.out) hb);have n6_:=Am (bP (by repeat (first|(with_reducible first|exact HB.out|apply oA|apply pN|apply o1|refine bS ?_ Bi.out|refine bS ?_ Bj.out|refine bS ?_ Bn.out)|exact HB.out)) hb);have n7_:=Am (hbox);have n8_:=Am ((by rw [hg];exact (bZ (by repeat (first|(with_reducible first|exact HB.out|apply oA|apply pN|apply o1|refine bS ?_ Bi.out|refine bS ?_ Bj.out|refine bS ?_ Bn.out)|exact HB.out))):w.heap.size≤Be));have n9_:=Am ((by rw [hg];exact (bZ (by repeat (first|(with_reducible first|exact HB.out|apply oA|apply pN|apply o1|refine bS ?_ Bi.out|refine bS ?_ Bj.out|refine bS ?_ Bn.out)|exact HB.out))):w.heap.size≤Be));have n10_:=Am ((by rw [hg];exact Nat.ne_of_lt (blk_lt (g:=Bh) (o:=.cells #[.slice A0_0 l0_0.length c0_0,.int .i64 a0_1] 25 (0,0)) (bL Ba.out)):Bh≠Be));have n11_:=Am ((by rw [hg];exact Nat.ne_of_gt (blk_lt (g:=Bh) (o:=.cells #[.slice A0_0 l0_0.length c0_0,.int .i64 a0_1] 25 (0,0)) (bL Ba.out)):Be≠Bh));have n12_:=Am ((by rw [hg];exact Nat.ne_of_lt (blk_lt (g:=Bf) (o:=.cells #[.slice none 0 0,.int .i64 x148001_2] 25 (0,0)) (bL Bb.out)):Bf≠Be));have n13_:=Am ((by rw [hg];exact Nat.ne_of_gt (blk_lt (g:=Bf) (o:=.cells #[.slice none 0 0,.int .i64 x148001_2] 25 (0,0)) (bL Bb.out)):Be≠Bf));have n14_:=Am ((by rw [hg];exact Nat.ne_of_lt (blk_lt (g:=Bg) (o:=.cells #[.slice Ao52 x155000_2.length co52,.int .i64 x155001_2] 25 (0,0)) (bL Bd.out)):Bg≠Be));have n15_:=Am ((by rw [hg];exact Nat.ne_of_gt (blk_lt (g:=Bg) (o:=.cells #[.slice Ao52 x155000_2.length co52,.int .i64 x155001_2] 25 (0,0)) (bL Bd.out)):Be≠Bg));clear Bl Bc Bm Ba Bb Bd HB;revert n0_ n1_ n2_ n3_ n4_ n5_ n6_ n7_ n8_ n9_ n10_ n11_ n12_ n13_ n14_ n15_;intro Bl Bc Bm Ba Bb Bd HB Bk BX BB By Bz Bw BA Bv Bo;clear hb hbox hg;obtain ⟨Ao55,co55,eo55⟩:=Kd.R_slice Bm.out;subst eo55;have DT:=Bz.out;have DU:=By.out;have DV:=BA.out;have DW:=Bw.out;have DX:=Bo.out;have DY:=Bv.out;have Dc:w54.cell? ⟨Be,0,none⟩=some (.slice none 0 0):=(bC Bk.out 0).trans rfl;have Dd:w54.cell? ⟨Be,1,none⟩=some (.int .i64 0):=(bC Bk.out 1).trans rfl;have De:=bF Bk.out 0;have Df:=bF Bk.out 1;have DZ:=Bs.out;have D0:=Br.out;have Dg:w54.cell? ⟨Bf,0,none⟩=some (.slice none 0 0):=(bC Bb.out 0).trans rfl;have Dh:w54.cell? ⟨Bf,1,none⟩=some (.int .i64 x148001_2):=(bC Bb.out 1).trans rfl;have Di:=bF Bb.out 0;have Dj:=bF Bb.out 1))
      refine bodyPost_ret (results_ctt rfl _ _ Bf 25 #[.slice none 0 0,.int .i64 0] (0,0) _ rfl (by (with_reducible repeat (first|refine bN ?_ _|refine bD ?_|refine bA ?_ _));refine blk_put (cs:=#[.slice none 0 0,.int .i64 x148001_2]) ?_ 1 _ rfl;(with_reducible repeat (first|refine bN ?_ _|refine bD ?_|refine bA ?_ _));refine blk_put (cs:=#[.slice none 0 0,.int .i64 x148001_2]) ?_ 0 _ rfl;(with_reducible repeat (first|refine bN ?_ _|refine bD ?_|refine bA ?_ _|refine blk_far ?_ Bw.out _));exact Bb.out) Try.underlying25 rfl (by kernel_rfl)) rfl ?_
      exact ⟨_,_,by first|rfl|(simp [errW_none,errW_some] <;> rfl)|(simp [*,errW_none,errW_some] <;> rfl),by first|exact Kd.R_nil _ _ _ _ _|exact Kd.N_nil _ _ _ _ _|exact Kd.V_nil _ _ _ _ _|exact Kd.Q_nil _ _ _ _ _|exact Kd.S_nil _ _ _ _ _,by first|exact Kd.R_nil _ _ _ _ _|exact Kd.N_nil _ _ _ _ _|exact Kd.V_nil _ _ _ _ _|exact Kd.Q_nil _ _ _ _ _|exact Kd.S_nil _ _ _ _ _,by repeat (first|(with_reducible first|exact HB.out|apply oA|apply pN|apply o1|refine bS ?_ Bi.out|refine bS ?_ Bj.out|refine bS ?_ Bn.out|refine bS ?_ BB.out)|exact HB.out)⟩
     subst c31
     have H1:(if x8_2.length<17592186044416 then (impl_QueueRun.l0 k2 (x8_2 ++ [t162]) a1 (wrap64 (x25_2 + 1)) t158 t161) else (none))=some (r1,r2,r3,r4):=by rw [if_pos rfl] at H;exact H
     clear H
     have H:=H1
     clear H1
     by_cases c32:x8_2.length<17592186044416
     rotate_left
     ·rw [if_neg c32] at H
      exact absurd H (by simp)
     rw [if_pos c32] at H
     have LMc32:=Am c32
     clear c32
     obtain ⟨y165,hy165⟩:∃ y_:List Int,y_=(x8_2 ++ [t162]):=⟨_,rfl⟩
     replace H:(impl_QueueRun.l0 k2 y165 a1 (wrap64 (x25_2 + 1)) t158 t161)=some (r1,r2,r3,r4):=by first|(rw [hy165];with_reducible exact H)|(have H2_:=(Option.bind_some _ _).symm.trans H;rw [hy165];with_reducible exact H2_)|(have H2_:=(Option.bind_some _ _).symm.trans H;with_reducible exact H2_)|with_reducible exact H|(rw [hy165];exact H)|exact H
     have Ny165:=Am hy165
     clear hy165
     have H':=Am H
     clear H
     have DF:=Bt.out
     have DG:=Bp.out
     have DH:=Bu.out
     have DI:=Bq.out
     have B0:wr.cell? ⟨Bg,0,none⟩=some (u155000):=(bC Bd.out 0).trans rfl
     have B1:wr.cell? ⟨Bg,1,none⟩=some (.int .i64 x155001_2):=(bC Bd.out 1).trans rfl
     have B2:=bF Bd.out 0
     have B3:=bF Bd.out 1
     obtain ⟨Ao36,co36,eo36⟩:=Kd.R_slice Bc.out
     subst eo36
     try go_wp2_with (first|((with_reducible refine gate_callee (f:=21) rfl ?_);refine goesL_ (some 29) rfl rfl Try.func21 (by kernel_rfl) rfl #[.agg #[.slice Ao36 x155000_2.length co36,.int .i64 x155001_2]] rfl (by (try simp only [lM,lC,lN]);first|done|rfl|(simp only [lD,lT];rfl)) ?_;(with_reducible refine (impl_QueueTick.calls k2 _ _ x155000_2 x155001_2 t158 t161 t162 true _ ?side1 ?side2 A30.out).mono ?_);(case side1=>repeat (first|exact (Kd.R_reads' Bc.out).2.2|(with_reducible refine cA ?_ _)|(with_reducible refine cN ?_ _)|(with_reducible refine cD ?_)));(case side2=>exact (Kd.R_reads' Bc.out).2.1);rintro e w37 ⟨v159,rfl,ho0,hb⟩;refine ⟨_,rfl,?_⟩;have n0_:=Am (rB (rL Bl.out) hb);have n1_:=Am (Kd.R_elder' (rL Bc.out) (Kd.R_base ho0) hb);have n2_:=Am (Kd.R_lower (Kd.R_new' ho0 (Kd.R_lt (rL Bc.out))) (bZ (by repeat (first|(with_reducible first|exact HB.out|apply oA|apply pN|apply o1|refine bS ?_ Bi.out|refine bS ?_ Bj.out|refine bS ?_ Bn.out)|exact HB.out))));have n3_:=Am (bB (g:=Bh) (o:=.cells #[.slice A0_0 l0_0.length c0_0,.int .i64 a0_1] 25 (0,0)) (bL Ba.out) hb);have n4_:=Am (bB (g:=Bf) (o:=.cells #[.slice none 0 0,.int .i64 x148001_2] 25 (0,0)) (bL Bb.out) hb);have n5_:=Am (bB (g:=Bg) (o:=.cells #[.slice Ao36 x155000_2.length co36,.int .i64 x155001_2] 25 (0,0)) (bL Bd.out) hb);have n6_:=Am (bP (by repeat (first|(with_reducible first|exact HB.out|apply oA|apply pN|apply o1|refine bS ?_ Bi.out|refine bS ?_ Bj.out|refine bS ?_ Bn.out)|exact HB.out)) hb);clear Bl Bc Ba Bb Bd HB;revert n0_ n1_ n2_ n3_ n4_ n5_ n6_;intro Bl Bc Bm Ba Bb Bd HB;(try clear hb);(try clear hb2);(try clear hk);(try clear hi);(try clear ho0))|((with_reducible refine gate_dst (N:=9) rfl ?_);refine box_event ?hg (N:=9) ?hd (cs:=#[.slice none 0 0,.int .i64 0]) (t:=25) ?hr ?_;(case hd=>rfl);(case hg=>rfl);(case hr=>first|(go_simp;done)|(go_simp;rfl));intro Be hg w38 hbox hb;have n0_:=Am (rB (rL Bl.out) hb);have n1_:=Am (rB (rL Bc.out) hb);have n2_:=Am (rB (rL Bm.out) hb);have n3_:=Am (bB (g:=Bh) (o:=.cells #[.slice A0_0 l0_0.length c0_0,.int .i64 a0_1] 25 (0,0)) (bL Ba.out) hb);have n4_:=Am (bB (g:=Bf) (o:=.cells #[.slice none 0 0,.int .i64 x148001_2] 25 (0,0)) (bL Bb.out) hb);have n5_:=Am (bB (g:=Bg) (o:=.cells #[.slice Ao36 x155000_2.length co36,.int .i64 x155001_2] 25 (0,0)) (bL Bd.out) hb);have n6_:=Am (bP (by repeat (first|(with_reducible first|exact HB.out|apply oA|apply pN|apply o1|refine bS ?_ Bi.out|refine bS ?_ Bj.out|refine bS ?_ Bn.out)|exact HB.out)) hb);have n7_:=Am (hbox);have n8_:=Am ((by rw [hg];exact (bZ (by repeat (first|(with_reducible first|exact HB.out|apply oA|apply pN|apply o1|refine bS ?_ Bi.out|refine bS ?_ Bj.out|refine bS ?_ Bn.out)|exact HB.out))):w.heap.size≤Be));have n9_:=Am ((by rw [hg];exact (bZ (by repeat (first|(with_reducible first|exact HB.out|apply oA|apply pN|apply o1|refine bS ?_ Bi.out|refine bS ?_ Bj.out|refine bS ?_ Bn.out)|exact HB.out))):w.heap.size≤Be));have n10_:=Am ((by rw [hg];exact Nat.ne_of_lt (blk_lt (g:=Bh) (o:=.cells #[.slice A0_0 l0_0.length c0_0,.int .i64 a0_1] 25 (0,0)) (bL Ba.out)):Bh≠Be));have n11_:=Am ((by rw [hg];exact Nat.ne_of_gt (blk_lt (g:=Bh) (o:=.cells #[.slice A0_0 l0_0.length c0_0,.int .i64 a0_1] 25 (0,0)) (bL Ba.out)):Be≠Bh));have n12_:=Am ((by rw [hg];exact Nat.ne_of_lt (blk_lt (g:=Bf) (o:=.cells #[.slice none 0 0,.int .i64 x148001_2] 25 (0,0)) (bL Bb.out)):Bf≠Be));have n13_:=Am ((by rw [hg];exact Nat.ne_of_gt (blk_lt (g:=Bf) (o:=.cells #[.slice none 0 0,.int .i64 x148001_2] 25 (0,0)) (bL Bb.out)):Be≠Bf));have n14_:=Am ((by rw [hg];exact Nat.ne_of_lt (blk_lt (g:=Bg) (o:=.cells #[.slice Ao36 x155000_2.length co36,.int .i64 x155001_2] 25 (0,0)) (bL Bd.out)):Bg≠Be));have n15_:=Am ((by rw [hg];exact Nat.ne_of_gt (blk_lt (g:=Bg) (o:=.cells #[.slice Ao36 x155000_2.length co36,.int .i64 x155001_2] 25 (0,0)) (bL Bd.out)):Be≠Bg));clear Bl Bc Bm Ba Bb Bd HB;revert n0_ n1_ n2_ n3_ n4_ n5_ n6_ n7_ n8_ n9_ n10_ n11_ n12_ n13_ n14_ n15_;intro Bl Bc Bm Ba Bb Bd HB Bk BX BB By Bz Bw BA Bv Bo;clear hb hbox hg;obtain ⟨Ao39,co39,eo39⟩:=Kd.R_slice Bm.out;subst eo39;have DJ:=Bz.out;have DK:=By.out;have DL:=BA.out;have DM:=Bw.out;have DN:=Bo.out;have DO:=Bv.out;have B4:w38.cell? ⟨Be,0,none⟩=some (.slice none 0 0):=(bC Bk.out 0).trans rfl;have B5:w38.cell? ⟨Be,1,none⟩=some (.int .i64 0):=(bC Bk.out 1).trans rfl;have B6:=bF Bk.out 0;have B7:=bF Bk.out 1))
     have n0_:Aside0 (Kd.R (Kd.int .i64) 3 ((w38.setCell ⟨Be,0,none⟩ (.slice Ao39 t158.length co39)).setCell ⟨Be,1,none⟩ (.int .i64 t161)) w.heap.size (fun _=>True) u8 x8_2):=⟨by (with_reducible repeat (first|apply rA|apply rN|apply rD));exact rM (rF (p:=⟨Be,1,none⟩) (rF (p:=⟨Be,0,none⟩) (rT Bl.out Bk.out (by decide)) (fun _ hk=>hk.2) (.slice Ao39 t158.length co39)) (fun _ hk=>hk.2) (.int .i64 t161)) (fun _ hk=>trivial)⟩
     have n1_:Aside0 (Kd.R k40 40 ((w38.setCell ⟨Be,0,none⟩ (.slice Ao39 t158.length co39)).setCell ⟨Be,1,none⟩ (.int .i64 t161)) w.heap.size (fun k_=>some k_≠(.slice Ao39 t158.length co39:Value).ownBlock) (.slice Ao36 x155000_2.length co36) x155000_2):=⟨by (with_reducible repeat (first|apply rA|apply rN|apply rD));exact rM (rF (p:=⟨Be,1,none⟩) (rF (p:=⟨Be,0,none⟩) (rT Bc.out Bk.out (by decide)) (fun _ hk=>hk.2) (.slice Ao39 t158.length co39)) (fun _ hk=>hk.2) (.int .i64 t161)) (fun _ hk=>hk.1.2)⟩
     have n2_:Aside0 (Kd.R k40 40 ((w38.setCell ⟨Be,0,none⟩ (.slice Ao39 t158.length co39)).setCell ⟨Be,1,none⟩ (.int .i64 t161)) w.heap.size (fun k_=>some k_≠(.slice Ao36 x155000_2.length co36:Value).ownBlock) (.slice Ao39 t158.length co39) t158):=⟨by (with_reducible repeat (first|apply rA|apply rN|apply rD));exact rM (rF (p:=⟨Be,1,none⟩) (rF (p:=⟨Be,0,none⟩) (rT Bm.out Bk.out (by decide)) (fun _ hk=>hk.2) (.slice Ao39 t158.length co39)) (fun _ hk=>hk.2) (.int .i64 t161)) (fun _ hk=>hk.1.2)⟩
     have n3_:Aside0 (((w38.setCell ⟨Be,0,none⟩ (.slice Ao39 t158.length co39)).setCell ⟨Be,1,none⟩ (.int .i64 t161)).heap[Bh]?=some (.cells #[.slice A0_0 l0_0.length c0_0,.int .i64 a0_1] 25 (0,0))):=⟨by (with_reducible repeat (first|refine bN ?_ _|refine bD ?_|refine bA ?_ _|refine blk_far ?_ By.out _));exact Ba.out⟩
     have n4_:Aside0 (((w38.setCell ⟨Be,0,none⟩ (.slice Ao39 t158.length co39)).setCell ⟨Be,1,none⟩ (.int .i64 t161)).heap[Bf]?=some (.cells #[.slice none 0 0,.int .i64 x148001_2] 25 (0,0))):=⟨by (with_reducible repeat (first|refine bN ?_ _|refine bD ?_|refine bA ?_ _|refine blk_far ?_ Bw.out _));exact Bb.out⟩
     have n5_:Aside0 (((w38.setCell ⟨Be,0,none⟩ (.slice Ao39 t158.length co39)).setCell ⟨Be,1,none⟩ (.int .i64 t161)).heap[Bg]?=some (.cells #[.slice Ao36 x155000_2.length co36,.int .i64 x155001_2] 25 (0,0))):=⟨by (with_reducible repeat (first|refine bN ?_ _|refine bD ?_|refine bA ?_ _|refine blk_far ?_ Bv.out _));exact Bd.out⟩
     have n6_:Aside0 (((w38.setCell ⟨Be,0,none⟩ (.slice Ao39 t158.length co39)).setCell ⟨Be,1,none⟩ (.int .i64 t161)).heap[Be]?=some (.cells #[.slice Ao39 t158.length co39,.int .i64 t161] 25 (0,0))):=⟨by (with_reducible repeat (first|refine bN ?_ _|refine bD ?_|refine bA ?_ _));refine blk_put (cs:=#[.slice Ao39 t158.length co39,.int .i64 0]) ?_ 1 _ rfl;(with_reducible repeat (first|refine bN ?_ _|refine bD ?_|refine bA ?_ _));refine blk_put (cs:=#[.slice none 0 0,.int .i64 0]) ?_ 0 _ rfl;(with_reducible repeat (first|refine bN ?_ _|refine bD ?_|refine bA ?_ _));exact Bk.out⟩
     have n7_:Aside0 (Below w.heap.size w ((w38.setCell ⟨Be,0,none⟩ (.slice Ao39 t158.length co39)).setCell ⟨Be,1,none⟩ (.int .i64 t161))):=⟨by repeat (first|(with_reducible first|exact HB.out|apply oA|apply pN|apply o1|refine bS ?_ Bi.out|refine bS ?_ Bj.out|refine bS ?_ Bn.out|refine bS ?_ BB.out)|exact HB.out)⟩
     (try clear Bl)
     (try clear Bc)
     (try clear Bm)
     (try clear Ba)
     (try clear Bb)
     (try clear Bd)
     (try clear Bk)
     (try clear HB)
     generalize ((w38.setCell ⟨Be,0,none⟩ (.slice Ao39 t158.length co39)).setCell ⟨Be,1,none⟩ (.int .i64 t161))=w44 at n0_ n1_ n2_ n3_ n4_ n5_ n6_ n7_ ⊢
     have Bl:=n0_
     have Bc:=n1_
     have Bm:=n2_
     have Ba:=n3_
     have Bb:=n4_
     have Bd:=n5_
     have Bk:=n6_
     have HB:=n7_
     clear n0_ n1_ n2_ n3_ n4_ n5_ n6_ n7_
     have n0_:=Am (rD Bl.out)
     have n1_:=Am (rD Bc.out)
     have n2_:=Am (rD Bm.out)
     have n3_:=Am (bD Ba.out)
     have n4_:=Am (bD Bb.out)
     have n5_:=Am (bD Bd.out)
     have n6_:=Am (bD Bk.out)
     have n7_:=Am (o1 HB.out)
     clear Bl
     clear Bc
     clear Bm
     clear Ba
     clear Bb
     clear Bd
     clear Bk
     clear HB
     have Bl:=n0_
     have Bc:=n1_
     have Bm:=n2_
     have Ba:=n3_
     have Bb:=n4_
     have Bd:=n5_
     have Bk:=n6_
     have HB:=n7_
     clear n0_ n1_ n2_ n3_ n4_ n5_ n6_ n7_
     refine start_ (n:=7) (S:=fun w'=>w'.cell? ⟨Be,0,none⟩=some (.slice Ao39 t158.length co39)∧w'.cell? ⟨Be,1,none⟩=some (.int .i64 t161)) (ds:=[]) #[false,false,false,false,false,false,false] (by kernel_rfl) rfl rfl ⟨(bC Bk.out 0).trans rfl,(bC Bk.out 1).trans rfl⟩ (fun hHeld=>?_)
     generalize w44.drew=w45 at Bl Bc Bm Ba Bb Bd Bk HB hHeld ⊢
     refine pure_ (i:=1) (N:=some 37) (v:=?_) (a':=?_) #[false,true,false,false,false,false,false] rfl rfl (by kernel_rfl) (fun _ _ _ h=>h) (Or.inl ⟨by rfl,?_⟩) ?_ ?_
     rotate_left;(intro w';go_simp;with_reducible rfl)
     rotate_left;(simp only [Act.put,lA,lZ,lS,iw,jw];rfl)
     refine pure_ (i:=2) (N:=some 38) (v:=?_) (a':=?_) #[false,true,true,false,false,false,false] rfl rfl (by kernel_rfl) (fun _ _ _ h=>h) (Or.inl ⟨by rfl,?_⟩) ?_ ?_
     rotate_left;(intro w';go_simp;with_reducible rfl)
     rotate_left;(simp only [Act.put,lA,lZ,lS,iw,jw];rfl)
     refine take_ (i:=0) (N:=some 36) (v:=?_) (a':=?_) #[true,true,true,false,false,false,false] rfl rfl (by kernel_rfl) (fun _ _ _ h=>h) (Or.inl ⟨by rfl,?_⟩) hHeld ?_ ?_
     rotate_left;(rintro w' ⟨s0,s1⟩;go_simp;with_reducible rfl)
     rotate_left;(simp only [Act.put,lA,lZ,lS,iw,jw];rfl)
     refine one_ (i:=3) (N:=some 39) #[true,true,true,true,false,false,false] rfl rfl (by kernel_rfl) (by decide) (fun K hK=>?_)
     refine value_ (w1:=?_) (v:=?_) (by rfl) rfl ?_ ?_
     rotate_left 2
     ·go_simp
      constructor
      ·rfl
      ·rfl
     refine hK.out _ _ ⟨(bC (bA Bk.out _) 0).trans rfl,(bC (bA Bk.out _) 1).trans rfl⟩ (fun hHeld=>?_)
     clear hK K
     refine norm_ (by show Act.put _ (some 39) _=_;simp only [Act.put,lA,lZ,lS,iw,jw];rfl) ?_
     refine one_ (i:=4) (N:=some 40) #[true,true,true,true,true,false,false] rfl rfl (by kernel_rfl) (by decide) (fun K hK=>?_)
     refine Kd.R_append_step (Kd.int .i64) (w0:=w) w.heap.size (by rfl) (.tmp 37) (.tmp 39) 34 3 (.int .i64 0) 8 rfl Try.underlying34 info3 rfl (by decide) (by omega) u8 x8_2 t162 [.int .i64 t162] (fun _=>True) (fun _=>False) rfl rfl ?aP (fun _ hk=>hk.elim) ?aF ?aO ?aB ?aS ?aL ?_
     (case aP=>exact rfl)
     (case aB=>exact (by repeat (first|(with_reducible first|exact HB.out|apply oA|apply pN|apply o1|refine bS ?_ Bi.out|refine bS ?_ Bj.out|refine bS ?_ Bn.out|refine bS ?_ BB.out)|exact HB.out)))
     (case aF=>exact (fun _ _=>trivial))
     (case aO=>exact (rL Bl.out))
     (case aS=>exact (bZ (by repeat (first|(with_reducible first|exact HB.out|apply oA|apply pN|apply o1|refine bS ?_ Bi.out|refine bS ?_ Bj.out|refine bS ?_ Bn.out|refine bS ?_ BB.out)|exact HB.out))))
     (case aL=>have:=LMc32.out;omega)
     intro v166 w46 ho hb hg hat
     rw [← Ny165.out] at ho
     have n0_:=Am (Kd.R_over' (rL Bc.out) (Kd.R_typed (rL Bl.out)) (by decide) hg)
     have n1_:=Am (blk_grown (g:=Bh) (o:=.cells #[.slice A0_0 l0_0.length c0_0,.int .i64 a0_1] 25 (0,0)) (bL Ba.out) hg (Kd.R_ne Bl.out Ba.out (by decide)))
     have n2_:=Am (blk_grown (g:=Bf) (o:=.cells #[.slice none 0 0,.int .i64 x148001_2] 25 (0,0)) (bL Bb.out) hg (Kd.R_ne Bl.out Bb.out (by decide)))
     have n3_:=Am (blk_grown (g:=Bg) (o:=.cells #[.slice Ao36 x155000_2.length co36,.int .i64 x155001_2] 25 (0,0)) (bL Bd.out) hg (Kd.R_ne Bl.out Bd.out (by decide)))
     have n4_:=Am (Kd.R_over' (rL Bm.out) (Kd.R_typed (rL Bl.out)) (by decide) hg)
     have n5_:=Am (blk_grown (g:=Be) (o:=.cells #[.slice Ao39 t158.length co39,.int .i64 t161] 25 (0,0)) (bL Bk.out) hg (Kd.R_ne Bl.out Bk.out (by decide)))
     have n6_:=Am (hb)
     have n7_:=Am (ho)
     clear Bc
     clear Ba
     clear Bb
     clear Bd
     clear Bm
     clear Bk
     clear HB
     clear Bl
     have Bc:=n0_
     have Ba:=n1_
     have Bb:=n2_
     have Bd:=n3_
     have Bm:=n4_
     have Bk:=n5_
     have HB:=n6_
     have BY:=n7_
     clear n0_ n1_ n2_ n3_ n4_ n5_ n6_ n7_
     clear ho hb hg hat
     refine hK.out _ _ ⟨(bC Bk.out 0).trans rfl,(bC Bk.out 1).trans rfl⟩ (fun hHeld=>?_)
     clear hK K
     refine norm_ (by show Act.put _ (some 40) _=_;simp only [Act.put,lA,lZ,lS,iw,jw];rfl) ?_
     refine one_ (i:=5) (N:=none) #[true,true,true,true,true,true,false] rfl rfl (by kernel_rfl) (by decide) (fun K hK=>?_)
     have hs47:w46.cell? ⟨Bg,0,none⟩=some (.slice Ao36 x155000_2.length co36):=(bC Bd.out 0).trans rfl
     have hfs47:=bF Bd.out 0
     have hns47_0:=Bp.out
     have hns47_1:=Bq.out
     have hns47_3:=Bo.out
     have hms47_0:=Bt.out
     have hms47_1:=Bu.out
     have hms47_3:=Bv.out
     have hs48:w46.cell? ⟨Bg,1,none⟩=some (.int .i64 x155001_2):=(bC Bd.out 1).trans rfl
     have hfs48:=bF Bd.out 1
     have hns48_0:=Bp.out
     have hns48_1:=Bq.out
     have hns48_3:=Bo.out
     have hms48_0:=Bt.out
     have hms48_1:=Bu.out
     have hms48_3:=Bv.out
     refine skip_ (w1:=?_) (by rfl) rfl ?_ ?_
     rotate_left;(go_simp;rfl)
     refine hK.out _ _ ⟨((cell_far (p:=⟨Bg,_,none⟩) Bo.out _).trans (((cell_far (p:=⟨Bg,_,none⟩) Bo.out _).trans (hHeld.1)))),((cell_far (p:=⟨Bg,_,none⟩) Bo.out _).trans (((cell_far (p:=⟨Bg,_,none⟩) Bo.out _).trans (hHeld.2))))⟩ (fun hHeld=>?_)
     clear hK K
     refine pure_ (i:=6) (N:=some 8) (v:=?_) (a':=?_) #[true,true,true,true,true,true,true] rfl rfl (by kernel_rfl) (fun _ _ _ h=>h) (Or.inl ⟨by rfl,?_⟩) ?_ ?_
     rotate_left;(intro w';go_simp;with_reducible rfl)
     rotate_left;(simp only [Act.put,lA,lZ,lS,iw,jw];rfl)
     refine done_ (by kernel_rfl) ?_
     try go_wp2
     go_roundg k2
     case measure=>have:=BZ.out;have:=HK2.out;omega
     case rel=>exact ⟨(y165),(wrap64 (x25_2 + 1)),(x148001_2),(t158),(t161),(.slice Ao39 t158.length co39),(by first|rfl|(simp;done)|(simp [*];done)),H',⟨by have:=BZ.out;have:=HK2.out;omega⟩,⟨by (with_reducible repeat (first|apply rA|apply rN|apply rD));exact rM (rF (p:=⟨Bg,1,none⟩) (rF (p:=⟨Bg,0,none⟩) (rT BY.out Bd.out (by decide)) (fun _ hk=>hk.2) (.slice Ao39 t158.length co39)) (fun _ hk=>hk.2) (.int .i64 t161)) (fun _ hk=>trivial)⟩,⟨by (with_reducible repeat (first|apply rA|apply rN|apply rD));exact rM (rF (p:=⟨Bg,1,none⟩) (rF (p:=⟨Bg,0,none⟩) (rT Bm.out Bd.out (by decide)) (fun _ hk=>hk.2) (.slice Ao39 t158.length co39)) (fun _ hk=>hk.2) (.int .i64 t161)) (fun _ hk=>trivial)⟩,⟨by (with_reducible repeat (first|refine bN ?_ _|refine bD ?_|refine bA ?_ _|refine blk_far ?_ Bp.out _));exact Ba.out⟩,⟨by (with_reducible repeat (first|refine bN ?_ _|refine bD ?_|refine bA ?_ _|refine blk_far ?_ Bq.out _));exact Bb.out⟩,⟨by (with_reducible repeat (first|refine bN ?_ _|refine bD ?_|refine bA ?_ _));refine blk_put (cs:=#[.slice Ao39 t158.length co39,.int .i64 x155001_2]) ?_ 1 _ rfl;(with_reducible repeat (first|refine bN ?_ _|refine bD ?_|refine bA ?_ _));refine blk_put (cs:=#[.slice Ao36 x155000_2.length co36,.int .i64 x155001_2]) ?_ 0 _ rfl;(with_reducible repeat (first|refine bN ?_ _|refine bD ?_|refine bA ?_ _));exact Bd.out⟩,⟨by repeat (first|(with_reducible first|exact HB.out|apply oA|apply pN|apply o1|refine bS ?_ Bi.out|refine bS ?_ Bj.out|refine bS ?_ Bn.out|refine bS ?_ BB.out)|exact HB.out)⟩⟩
end Go.Proofs.Ytfhcgmfodfcpeaa.PFnQueueRun
