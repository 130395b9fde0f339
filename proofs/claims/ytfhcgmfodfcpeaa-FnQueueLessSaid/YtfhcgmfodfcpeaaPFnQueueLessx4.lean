/- Proved here, without a condition beyond those that each theorem states: what the Go functions named below do is what the plain functions of the same names say. Written by xprint.py, a program of this session. -/
import Derived.Test.YtfhcgmfodfcpeaaPFnQueueLessx0
import Derived.Test.YtfhcgmfodfcpeaaPFnQueueLessx3
namespace Go.Proofs.Ytfhcgmfodfcpeaa.PFnQueueLess
open Go.RowKit Go.Proofs.YtfhcgmfodfcpeaaW.PrintWords Go.Proofs.YtfhcgmfodfcpeaaW.PrintLast Go.Proofs.YtfhcgmfodfcpeaaW.PrintMore
attribute [local go_sem] max2_int min2_int max_two min_two max_three min_three max_four min_four   -- for this text's walks alone
set_option linter.unusedVariables false
set_option linter.unusedSimpArgs false

attribute [local go_sem ↓] isSome_setCell_
/-! ### impl_Queue_next: function 43 -/
def impl_Queue_next.l0 : Nat → Int → List (S40) → Int → Int → List (S40) → Int → Option (Int)
|0, _, _, _, _, _, _ => none
|k + 1, x3, x7, x8, x9, x115000, x115001 => if x9 < x8 then (if 0 ≤ x9 then (if x9 < (x7.length : Int) then (if (rd_T40 x7 x9).f3 = true then (if x3 < 0 then (impl_Queue_next.l0 k x9 x7 x8 (wrap64 (x9 + 1)) x115000 x115001) else (if 0 ≤ x3 then (if x3 < (x115000.length : Int) then (if ((rd_T40 x7 x9).f2) < ((rd_T40 x115000 x3).f2) then (impl_Queue_next.l0 k x9 x7 x8 (wrap64 (x9 + 1)) x115000 x115001) else (impl_Queue_next.l0 k x3 x7 x8 (wrap64 (x9 + 1)) x115000 x115001)) else (none)) else (none))) else (impl_Queue_next.l0 k x3 x7 x8 (wrap64 (x9 + 1)) x115000 x115001)) else (none)) else (none)) else (some x3)
def impl_Queue_next.f (k : Nat) (l0_0 : List (S40)) (a0_1 : Int) : Option (Int) := impl_Queue_next.l0 k (-1) l0_0 (l0_0.length : Int) 0 l0_0 a0_1
theorem impl_Queue_next.mono_l : ∀ k, (∀ y0 y1 y2 y3 y4 y5, LeO (impl_Queue_next.l0 k y0 y1 y2 y3 y4 y5) (impl_Queue_next.l0 (k + 1) y0 y1 y2 y3 y4 y5))
|0 => fun _ _ _ _ _ _ r h => by simp [impl_Queue_next.l0] at h
|k + 1 => by
  have ih0 := impl_Queue_next.mono_l k
  ·intro y0 y1 y2 y3 y4 y5
   unfold impl_Queue_next.l0
   repeat' first
  |(with_reducible exact ih0 _ _ _ _ _ _)
  |(with_reducible exact LeO.refl _)
  |(with_reducible exact LeO.none _)
  |(with_reducible refine LeO.ite ?_ ?_)
  |(with_reducible refine LeO.bind ?_ (fun _ => ?_))
  |exact ih0 _ _ _ _ _ _
  |exact LeO.none _
  |refine LeO.ite ?_ ?_
  |refine LeO.bind ?_ (fun _ => ?_)
theorem impl_Queue_next.mono : ∀ a0 a1 k, LeO (impl_Queue_next.f k a0 a1) (impl_Queue_next.f (k + 1) a0 a1) := by
 intro a0 a1 k
 have ih0 := impl_Queue_next.mono_l k
 unfold impl_Queue_next.f
 repeat' first
  |(with_reducible exact ih0 _ _ _ _ _ _)
  |(with_reducible exact LeO.refl _)
  |(with_reducible exact LeO.none _)
  |(with_reducible refine LeO.ite ?_ ?_)
  |(with_reducible refine LeO.bind ?_ (fun _ => ?_))
  |exact ih0 _ _ _ _ _ _
  |exact LeO.none _
  |refine LeO.ite ?_ ?_
  |refine LeO.bind ?_ (fun _ => ?_)
set_option maxHeartbeats 2000000 in
set_option maxRecDepth 100000 in
theorem impl_Queue_next.calls (k:Nat) (A0_0:Option Addr) (c0_0:Nat) (l0_0:List (S40)) (a0_1:Int) (r:Int) (w:World) (hr0_0:Kd.C k40 w A0_0 l0_0.length l0_0) (hc0_0:l0_0.length≤c0_0) (h:impl_Queue_next.f k l0_0 a0_1=some r) :
  Calls Try.prog 43 #[.agg #[.slice A0_0 l0_0.length c0_0,.int .i64 a0_1]] w fun e w'=>e=.returned (.int .i64 r)∧Below w.heap.size w w':=by
 have hu25:=Try.underlying25
 have hu40:=Try.underlying40
 have HR0_0:=Am hr0_0
 have HC0_0:=Am hc0_0
 clear hr0_0 hc0_0
 have HB:=Am (Below.refl w.heap.size w)
 have H:(impl_Queue_next.l0 k (-1) l0_0 (l0_0.length:Int) 0 l0_0 a0_1)=some r:=h
 clear h
 have H':=Am H
 clear H
 go_enter Try.func43,Try.ntmps43
 go_wp2_with (first|((with_reducible refine gate_dst (N:=1) rfl ?_);refine box_event ?hg (N:=1) ?hd (cs:=#[.slice A0_0 l0_0.length c0_0,.int .i64 a0_1]) (t:=25) ?hr ?_;(case hd=>rfl);(case hg=>rfl);(case hr=>first|(go_simp;done)|(go_simp;rfl));intro Bd hg w2 hbox hb;have n0_:=Am (bP (by repeat (first|(with_reducible first|exact HB.out|apply oA|apply pN|apply o1)|exact HB.out)) hb);have n1_:=Am (hbox);have n2_:=Am ((by rw [hg];exact (bZ (by repeat (first|(with_reducible first|exact HB.out|apply oA|apply pN|apply o1)|exact HB.out))):w.heap.size≤Bd));have n3_:=Am ((by rw [hg];exact (bZ (by repeat (first|(with_reducible first|exact HB.out|apply oA|apply pN|apply o1)|exact HB.out))):w.heap.size≤Bd));clear HB;revert n0_ n1_ n2_ n3_;intro HB Bc B1 Bf;clear hb hbox hg;have Bj:=cz0 Bc.out;have Bk:=cz1 Bc.out;have Bl:=bF Bc.out 0;have Bm:=bF Bc.out 1))
 repeat (go_quiet (first|((with_reducible refine gate_dst (N:=1) rfl ?_);refine box_event ?hg (N:=1) ?hd (cs:=#[.slice A0_0 l0_0.length c0_0,.int .i64 a0_1]) (t:=25) ?hr ?_;(case hd=>rfl);(case hg=>rfl);(case hr=>first|(go_simp;done)|(go_simp;rfl));intro Bd hg w2 hbox hb;have n0_:=Am (bP (by repeat (first|(with_reducible first|exact HB.out|apply oA|apply pN|apply o1)|exact HB.out)) hb);have n1_:=Am (hbox);have n2_:=Am ((by rw [hg];exact (bZ (by repeat (first|(with_reducible first|exact HB.out|apply oA|apply pN|apply o1)|exact HB.out))):w.heap.size≤Bd));have n3_:=Am ((by rw [hg];exact (bZ (by repeat (first|(with_reducible first|exact HB.out|apply oA|apply pN|apply o1)|exact HB.out))):w.heap.size≤Bd));clear HB;revert n0_ n1_ n2_ n3_;intro HB Bc B1 Bf;clear hb hbox hg;have Bj:=cz0 Bc.out;have Bk:=cz1 Bc.out;have Bl:=bF Bc.out 0;have Bm:=bF Bc.out 1));try go_wp2_with (first|((with_reducible refine gate_dst (N:=1) rfl ?_);refine box_event ?hg (N:=1) ?hd (cs:=#[.slice A0_0 l0_0.length c0_0,.int .i64 a0_1]) (t:=25) ?hr ?_;(case hd=>rfl);(case hg=>rfl);(case hr=>first|(go_simp;done)|(go_simp;rfl));intro Bd hg w2 hbox hb;have n0_:=Am (bP (by repeat (first|(with_reducible first|exact HB.out|apply oA|apply pN|apply o1)|exact HB.out)) hb);have n1_:=Am (hbox);have n2_:=Am ((by rw [hg];exact (bZ (by repeat (first|(with_reducible first|exact HB.out|apply oA|apply pN|apply o1)|exact HB.out))):w.heap.size≤Bd));have n3_:=Am ((by rw [hg];exact (bZ (by repeat (first|(with_reducible first|exact HB.out|apply oA|apply pN|apply o1)|exact HB.out))):w.heap.size≤Bd));clear HB;revert n0_ n1_ n2_ n3_;intro HB Bc B1 Bf;clear hb hbox hg;have Bj:=cz0 Bc.out;have Bk:=cz1 Bc.out;have Bl:=bF Bc.out 0;have Bm:=bF Bc.out 1)))
 go_loopg [3,9] k (fun kq v3 v9 w'=>∃ (x3_1:Int) (x9_1:Int),v3=.int .i64 x3_1∧v9=.int .i64 x9_1∧Aside0 (impl_Queue_next.l0 kq x3_1 l0_0 (l0_0.length:Int) x9_1 l0_0 a0_1=some r)∧Aside0 (kq≤k)∧Aside0 (w'.heap[Bd]?=some (.cells #[(.slice A0_0 l0_0.length c0_0),.int .i64 a0_1] 25 (0,0)))∧Aside0 (Below w.heap.size w w'))
 case atStart=>exact ⟨((-1)),(0),(by first|rfl|(simp;done)|(simp [*];done)),(by first|rfl|(simp;done)|(simp [*];done)),H',⟨Nat.le_refl _⟩,⟨by (with_reducible repeat (first|refine bN ?_ _|refine bD ?_|refine bA ?_ _));exact Bc.out⟩,⟨by repeat (first|(with_reducible first|exact HB.out|apply oA|apply pN|apply o1|refine bS ?_ Bf.out)|exact HB.out)⟩⟩
 case round =>
  clear H'
  try clear p2
  try clear Bj
  try clear Bk
  try clear Bl
  try clear Bm
  obtain ⟨x3_1,x9_1,rfl,rfl,HA,HK1,Bc,HB⟩:=hrel
  cases gk with
 |zero=>exact absurd HA.out (by simp [impl_Queue_next.l0])
 |succ k1 =>
   have H:=HA.out
   clear HA
   simp only [impl_Queue_next.l0] at H
   by_cases c4:x9_1<(l0_0.length:Int)
   rotate_left
   ·rw [if_neg c4] at H
    have c4b0:decide (x9_1<(l0_0.length:Int))=false:=decide_eq_false c4
    clear c4
    obtain rfl:=Option.some.inj H
    go_wp2
    repeat (go_quiet (fail);try go_wp2)
    go_ret
    exact ⟨by first|rfl|(simp [errW_none,errW_some] <;> rfl)|(simp [*,errW_none,errW_some] <;> rfl),by repeat (first|(with_reducible first|exact HB.out|apply oA|apply pN|apply o1|refine bS ?_ Bf.out)|exact HB.out)⟩


   rw [if_pos c4] at H
   have c4b0:decide (x9_1<(l0_0.length:Int))=true:=decide_eq_true c4
   clear c4
   by_cases c5:0≤x9_1
   rotate_left
   ·rw [if_neg c5] at H
    exact absurd H (by simp)
   rw [if_pos c5] at H
   have c5b0:decide (0≤x9_1)=true:=decide_eq_true c5
   clear c5
   by_cases c6:x9_1<(l0_0.length:Int)
   rotate_left
   ·rw [if_neg c6] at H
    exact absurd H (by simp)
   rw [if_pos c6] at H
   have c6b0:decide (x9_1<(l0_0.length:Int))=true:=decide_eq_true c6
   clear c6
   obtain ⟨bq7,hbq7⟩:∃ b_:Bool,b_=((rd_T40 l0_0 x9_1).f3):=⟨_,rfl⟩
   replace H:(if bq7=true then (if x3_1<0 then (impl_Queue_next.l0 k1 x9_1 l0_0 (l0_0.length:Int) (wrap64 (x9_1 + 1)) l0_0 a0_1) else (if 0≤x3_1 then (if x3_1<(l0_0.length:Int) then (if ((rd_T40 l0_0 x9_1).f2)<((rd_T40 l0_0 x3_1).f2) then (impl_Queue_next.l0 k1 x9_1 l0_0 (l0_0.length:Int) (wrap64 (x9_1 + 1)) l0_0 a0_1) else (impl_Queue_next.l0 k1 x3_1 l0_0 (l0_0.length:Int) (wrap64 (x9_1 + 1)) l0_0 a0_1)) else (none)) else (none))) else (impl_Queue_next.l0 k1 x3_1 l0_0 (l0_0.length:Int) (wrap64 (x9_1 + 1)) l0_0 a0_1))=some r:=by rw [← hbq7] at H;exact H
   have Nbq7:=Am hbq7
   clear hbq7
   by_cases c8:bq7=true
   rotate_left
   ·replace c8:=Bool.eq_false_iff.mpr c8
    subst c8
    have H1:(impl_Queue_next.l0 k1 x3_1 l0_0 (l0_0.length:Int) (wrap64 (x9_1 + 1)) l0_0 a0_1)=some r:=by rw [if_neg (show ¬ (false=true) by decide)] at H;exact H
    clear H
    have H:=H1
    clear H1
    have H':=Am H
    clear H
    have p115:0≤(x9_1:Int):=of_decide_eq_true (by first|(with_reducible assumption)|assumption)
    have q115:x9_1<(l0_0.length:Int):=of_decide_eq_true (by first|(with_reducible assumption)|assumption)
    obtain ⟨ad115,e115,hx115_0,hx115_1,hx115_2,hx115_3⟩:=at_T40 HR0_0.out x9_1 p115 q115
    (try rw [← Nbq7.out] at hx115_3)
    cases e115
    replace hx115_0:=(bW HB hx115_0:)
    replace hx115_1:=(bW HB hx115_1:)
    replace hx115_2:=(bW HB hx115_2:)
    replace hx115_3:=(bW HB hx115_3:)
    replace p115:=eq_true p115
    replace q115:=eq_true q115
    go_wp2_with (first|((with_reducible refine gate_dst (N:=5) rfl ?_);refine box_event ?hg (N:=5) ?hd (cs:=#[.int .i64 0,.int .i64 0,.int .i64 0,.bool false]) (t:=40) ?hr ?_;(case hd=>rfl);(case hg=>rfl);(case hr=>first|(go_simp;done)|(go_simp;rfl));intro Ba hg w24 hbox hb;have n0_:=Am (bX Bc.out hb);have n1_:=Am (bP (by repeat (first|(with_reducible first|exact HB.out|apply oA|apply pN|apply o1|refine bS ?_ Bf.out)|exact HB.out)) hb);have n2_:=Am (hbox);have n3_:=Am ((by rw [hg];exact (bZ (by repeat (first|(with_reducible first|exact HB.out|apply oA|apply pN|apply o1|refine bS ?_ Bf.out)|exact HB.out))):w.heap.size≤Ba));have n4_:=Am ((by rw [hg];exact (bZ (by repeat (first|(with_reducible first|exact HB.out|apply oA|apply pN|apply o1|refine bS ?_ Bf.out)|exact HB.out))):w.heap.size≤Ba));have n5_:=Am ((nL Bc.out hg));have n6_:=Am ((nG Bc.out hg));clear Bc HB;revert n0_ n1_ n2_ n3_ n4_ n5_ n6_;intro Bc HB Bb Bh Bi Be Bg;clear hb hbox hg;have B8:=Bg.out;have B9:=Be.out;have BT:=cz0 Bb.out;have BU:=cz1 Bb.out;have BV:=cz2 Bb.out;have BW:=cz3 Bb.out;have BX:=bF Bb.out 0;have BY:=bF Bb.out 1;have BZ:=bF Bb.out 2;have B0:=bF Bb.out 3))
    repeat (go_quiet (first|((with_reducible refine gate_dst (N:=5) rfl ?_);refine box_event ?hg (N:=5) ?hd (cs:=#[.int .i64 0,.int .i64 0,.int .i64 0,.bool false]) (t:=40) ?hr ?_;(case hd=>rfl);(case hg=>rfl);(case hr=>first|(go_simp;done)|(go_simp;rfl));intro Ba hg w24 hbox hb;have n0_:=Am (bX Bc.out hb);have n1_:=Am (bP (by repeat (first|(with_reducible first|exact HB.out|apply oA|apply pN|apply o1|refine bS ?_ Bf.out)|exact HB.out)) hb);have n2_:=Am (hbox);have n3_:=Am ((by rw [hg];exact (bZ (by repeat (first|(with_reducible first|exact HB.out|apply oA|apply pN|apply o1|refine bS ?_ Bf.out)|exact HB.out))):w.heap.size≤Ba));have n4_:=Am ((by rw [hg];exact (bZ (by repeat (first|(with_reducible first|exact HB.out|apply oA|apply pN|apply o1|refine bS ?_ Bf.out)|exact HB.out))):w.heap.size≤Ba));have n5_:=Am ((nL Bc.out hg));have n6_:=Am ((nG Bc.out hg));clear Bc HB;revert n0_ n1_ n2_ n3_ n4_ n5_ n6_;intro Bc HB Bb Bh Bi Be Bg;clear hb hbox hg;have B8:=Bg.out;have B9:=Be.out;have BT:=cz0 Bb.out;have BU:=cz1 Bb.out;have BV:=cz2 Bb.out;have BW:=cz3 Bb.out;have BX:=bF Bb.out 0;have BY:=bF Bb.out 1;have BZ:=bF Bb.out 2;have B0:=bF Bb.out 3));try go_wp2_with (first|((with_reducible refine gate_dst (N:=5) rfl ?_);refine box_event ?hg (N:=5) ?hd (cs:=#[.int .i64 0,.int .i64 0,.int .i64 0,.bool false]) (t:=40) ?hr ?_;(case hd=>rfl);(case hg=>rfl);(case hr=>first|(go_simp;done)|(go_simp;rfl));intro Ba hg w24 hbox hb;have n0_:=Am (bX Bc.out hb);have n1_:=Am (bP (by repeat (first|(with_reducible first|exact HB.out|apply oA|apply pN|apply o1|refine bS ?_ Bf.out)|exact HB.out)) hb);have n2_:=Am (hbox);have n3_:=Am ((by rw [hg];exact (bZ (by repeat (first|(with_reducible first|exact HB.out|apply oA|apply pN|apply o1|refine bS ?_ Bf.out)|exact HB.out))):w.heap.size≤Ba));have n4_:=Am ((by rw [hg];exact (bZ (by repeat (first|(with_reducible first|exact HB.out|apply oA|apply pN|apply o1|refine bS ?_ Bf.out)|exact HB.out))):w.heap.size≤Ba));have n5_:=Am ((nL Bc.out hg));have n6_:=Am ((nG Bc.out hg));clear Bc HB;revert n0_ n1_ n2_ n3_ n4_ n5_ n6_;intro Bc HB Bb Bh Bi Be Bg;clear hb hbox hg;have B8:=Bg.out;have B9:=Be.out;have BT:=cz0 Bb.out;have BU:=cz1 Bb.out;have BV:=cz2 Bb.out;have BW:=cz3 Bb.out;have BX:=bF Bb.out 0;have BY:=bF Bb.out 1;have BZ:=bF Bb.out 2;have B0:=bF Bb.out 3)))
    go_roundg k1
    case measure=>have:=HK1.out;omega
    case rel=>exact ⟨(x3_1),(wrap64 (x9_1 + 1)),(by first|rfl|(simp;done)|(simp [*];done)),(by first|rfl|(simp;done)|(simp [*];done)),H',⟨by have:=HK1.out;omega⟩,⟨by (with_reducible repeat (first|refine bN ?_ _|refine bD ?_|refine bA ?_ _|refine blk_far ?_ Be.out _));exact Bc.out⟩,⟨by repeat (first|(with_reducible first|exact HB.out|apply oA|apply pN|apply o1|refine bS ?_ Bf.out|refine bS ?_ Bi.out)|exact HB.out)⟩⟩
   subst c8
   have H1:(if x3_1<0 then (impl_Queue_next.l0 k1 x9_1 l0_0 (l0_0.length:Int) (wrap64 (x9_1 + 1)) l0_0 a0_1) else (if 0≤x3_1 then (if x3_1<(l0_0.length:Int) then (if ((rd_T40 l0_0 x9_1).f2)<((rd_T40 l0_0 x3_1).f2) then (impl_Queue_next.l0 k1 x9_1 l0_0 (l0_0.length:Int) (wrap64 (x9_1 + 1)) l0_0 a0_1) else (impl_Queue_next.l0 k1 x3_1 l0_0 (l0_0.length:Int) (wrap64 (x9_1 + 1)) l0_0 a0_1)) else (none)) else (none)))=some r:=by rw [if_pos rfl] at H;exact H
   clear H
   have H:=H1
   clear H1
   by_cases c9:x3_1<0
   ·rw [if_pos c9] at H
    have c9b0:decide (x3_1<0)=true:=decide_eq_true c9
    clear c9
    have H':=Am H
    clear H
    have p115:0≤(x9_1:Int):=of_decide_eq_true (by first|(with_reducible assumption)|assumption)
    have q115:x9_1<(l0_0.length:Int):=of_decide_eq_true (by first|(with_reducible assumption)|assumption)
    obtain ⟨ad115,e115,hx115_0,hx115_1,hx115_2,hx115_3⟩:=at_T40 HR0_0.out x9_1 p115 q115
    (try rw [← Nbq7.out] at hx115_3)
    cases e115
    replace hx115_0:=(bW HB hx115_0:)
    replace hx115_1:=(bW HB hx115_1:)
    replace hx115_2:=(bW HB hx115_2:)
    replace hx115_3:=(bW HB hx115_3:)
    replace p115:=eq_true p115
    replace q115:=eq_true q115
    go_wp2_with (first|((with_reducible refine gate_dst (N:=5) rfl ?_);refine box_event ?hg (N:=5) ?hd (cs:=#[.int .i64 0,.int .i64 0,.int .i64 0,.bool false]) (t:=40) ?hr ?_;(case hd=>rfl);(case hg=>rfl);(case hr=>first|(go_simp;done)|(go_simp;rfl));intro Ba hg w10 hbox hb;have n0_:=Am (bX Bc.out hb);have n1_:=Am (bP (by repeat (first|(with_reducible first|exact HB.out|apply oA|apply pN|apply o1|refine bS ?_ Bf.out)|exact HB.out)) hb);have n2_:=Am (hbox);have n3_:=Am ((by rw [hg];exact (bZ (by repeat (first|(with_reducible first|exact HB.out|apply oA|apply pN|apply o1|refine bS ?_ Bf.out)|exact HB.out))):w.heap.size≤Ba));have n4_:=Am ((by rw [hg];exact (bZ (by repeat (first|(with_reducible first|exact HB.out|apply oA|apply pN|apply o1|refine bS ?_ Bf.out)|exact HB.out))):w.heap.size≤Ba));have n5_:=Am ((nL Bc.out hg));have n6_:=Am ((nG Bc.out hg));clear Bc HB;revert n0_ n1_ n2_ n3_ n4_ n5_ n6_;intro Bc HB Bb Bh Bi Be Bg;clear hb hbox hg;have B2:=Bg.out;have B3:=Be.out;have Bn:=cz0 Bb.out;have Bo:=cz1 Bb.out;have Bp:=cz2 Bb.out;have Bq:=cz3 Bb.out;have Br:=bF Bb.out 0;have Bs:=bF Bb.out 1;have Bt:=bF Bb.out 2;have Bu:=bF Bb.out 3))
    repeat (go_quiet (first|((with_reducible refine gate_dst (N:=5) rfl ?_);refine box_event ?hg (N:=5) ?hd (cs:=#[.int .i64 0,.int .i64 0,.int .i64 0,.bool false]) (t:=40) ?hr ?_;(case hd=>rfl);(case hg=>rfl);(case hr=>first|(go_simp;done)|(go_simp;rfl));intro Ba hg w10 hbox hb;have n0_:=Am (bX Bc.out hb);have n1_:=Am (bP (by repeat (first|(with_reducible first|exact HB.out|apply oA|apply pN|apply o1|refine bS ?_ Bf.out)|exact HB.out)) hb);have n2_:=Am (hbox);have n3_:=Am ((by rw [hg];exact (bZ (by repeat (first|(with_reducible first|exact HB.out|apply oA|apply pN|apply o1|refine bS ?_ Bf.out)|exact HB.out))):w.heap.size≤Ba));have n4_:=Am ((by rw [hg];exact (bZ (by repeat (first|(with_reducible first|exact HB.out|apply oA|apply pN|apply o1|refine bS ?_ Bf.out)|exact HB.out))):w.heap.size≤Ba));have n5_:=Am ((nL Bc.out hg));have n6_:=Am ((nG Bc.out hg));clear Bc HB;revert n0_ n1_ n2_ n3_ n4_ n5_ n6_;intro Bc HB Bb Bh Bi Be Bg;clear hb hbox hg;have B2:=Bg.out;have B3:=Be.out;have Bn:=cz0 Bb.out;have Bo:=cz1 Bb.out;have Bp:=cz2 Bb.out;have Bq:=cz3 Bb.out;have Br:=bF Bb.out 0;have Bs:=bF Bb.out 1;have Bt:=bF Bb.out 2;have Bu:=bF Bb.out 3));try go_wp2_with (first|((with_reducible refine gate_dst (N:=5) rfl ?_);refine box_event ?hg (N:=5) ?hd (cs:=#[.int .i64 0,.int .i64 0,.int .i64 0,.bool false]) (t:=40) ?hr ?_;(case hd=>rfl);(case hg=>rfl);(case hr=>first|(go_simp;done)|(go_simp;rfl));intro Ba hg w10 hbox hb;have n0_:=Am (bX Bc.out hb);have n1_:=Am (bP (by repeat (first|(with_reducible first|exact HB.out|apply oA|apply pN|apply o1|refine bS ?_ Bf.out)|exact HB.out)) hb);have n2_:=Am (hbox);have n3_:=Am ((by rw [hg];exact (bZ (by repeat (first|(with_reducible first|exact HB.out|apply oA|apply pN|apply o1|refine bS ?_ Bf.out)|exact HB.out))):w.heap.size≤Ba));have n4_:=Am ((by rw [hg];exact (bZ (by repeat (first|(with_reducible first|exact HB.out|apply oA|apply pN|apply o1|refine bS ?_ Bf.out)|exact HB.out))):w.heap.size≤Ba));have n5_:=Am ((nL Bc.out hg));have n6_:=Am ((nG Bc.out hg));clear Bc HB;revert n0_ n1_ n2_ n3_ n4_ n5_ n6_;intro Bc HB Bb Bh Bi Be Bg;clear hb hbox hg;have B2:=Bg.out;have B3:=Be.out;have Bn:=cz0 Bb.out;have Bo:=cz1 Bb.out;have Bp:=cz2 Bb.out;have Bq:=cz3 Bb.out;have Br:=bF Bb.out 0;have Bs:=bF Bb.out 1;have Bt:=bF Bb.out 2;have Bu:=bF Bb.out 3)))
    go_roundg k1
    case measure=>have:=HK1.out;omega
    case rel=>exact ⟨(x9_1),(wrap64 (x9_1 + 1)),(by first|rfl|(simp;done)|(simp [*];done)),(by first|rfl|(simp;done)|(simp [*];done)),H',⟨by have:=HK1.out;omega⟩,⟨by (with_reducible repeat (first|refine bN ?_ _|refine bD ?_|refine bA ?_ _|refine blk_far ?_ Be.out _));exact Bc.out⟩,⟨by repeat (first|(with_reducible first|exact HB.out|apply oA|apply pN|apply o1|refine bS ?_ Bf.out|refine bS ?_ Bi.out)|exact HB.out)⟩⟩
   rw [if_neg c9] at H
   have c9b0:decide (x3_1<0)=false:=decide_eq_false c9
   clear c9
   by_cases c13:0≤x3_1
   rotate_left
   ·rw [if_neg c13] at H
    exact absurd H (by simp)
   rw [if_pos c13] at H
   have c13b0:decide (0≤x3_1)=true:=decide_eq_true c13
   clear c13
   by_cases c14:x3_1<(l0_0.length:Int)
   rotate_left
   ·rw [if_neg c14] at H
    exact absurd H (by simp)
   rw [if_pos c14] at H
   have c14b0:decide (x3_1<(l0_0.length:Int))=true:=decide_eq_true c14
   clear c14
   by_cases c15:((rd_T40 l0_0 x9_1).f2)<((rd_T40 l0_0 x3_1).f2)
   ·rw [if_pos c15] at H
    have c15b0:decide (((rd_T40 l0_0 x9_1).f2)<((rd_T40 l0_0 x3_1).f2))=true:=decide_eq_true c15
    clear c15
    have H':=Am H
    clear H
    have p115:0≤(x9_1:Int):=of_decide_eq_true (by first|(with_reducible assumption)|assumption)
    have q115:x9_1<(l0_0.length:Int):=of_decide_eq_true (by first|(with_reducible assumption)|assumption)
    obtain ⟨ad115,e115,hx115_0,hx115_1,hx115_2,hx115_3⟩:=at_T40 HR0_0.out x9_1 p115 q115
    (try rw [← Nbq7.out] at hx115_3)
    cases e115
    replace hx115_0:=(bW HB hx115_0:)
    replace hx115_1:=(bW HB hx115_1:)
    replace hx115_2:=(bW HB hx115_2:)
    replace hx115_3:=(bW HB hx115_3:)
    replace p115:=eq_true p115
    replace q115:=eq_true q115
    go_wp2_with (first|((with_reducible refine gate_dst (N:=5) rfl ?_);refine box_event ?hg (N:=5) ?hd (cs:=#[.int .i64 0,.int .i64 0,.int .i64 0,.bool false]) (t:=40) ?hr ?_;(case hd=>rfl);(case hg=>rfl);(case hr=>first|(go_simp;done)|(go_simp;rfl));intro Ba hg w16 hbox hb;have n0_:=Am (bX Bc.out hb);have n1_:=Am (bP (by repeat (first|(with_reducible first|exact HB.out|apply oA|apply pN|apply o1|refine bS ?_ Bf.out)|exact HB.out)) hb);have n2_:=Am (hbox);have n3_:=Am ((by rw [hg];exact (bZ (by repeat (first|(with_reducible first|exact HB.out|apply oA|apply pN|apply o1|refine bS ?_ Bf.out)|exact HB.out))):w.heap.size≤Ba));have n4_:=Am ((by rw [hg];exact (bZ (by repeat (first|(with_reducible first|exact HB.out|apply oA|apply pN|apply o1|refine bS ?_ Bf.out)|exact HB.out))):w.heap.size≤Ba));have n5_:=Am ((nL Bc.out hg));have n6_:=Am ((nG Bc.out hg));clear Bc HB;revert n0_ n1_ n2_ n3_ n4_ n5_ n6_;intro Bc HB Bb Bh Bi Be Bg;clear hb hbox hg;have B4:=Bg.out;have B5:=Be.out;have Bv:=cz0 Bb.out;have Bw:=cz1 Bb.out;have Bx:=cz2 Bb.out;have By:=cz3 Bb.out;have Bz:=bF Bb.out 0;have BA:=bF Bb.out 1;have BB:=bF Bb.out 2;have BC:=bF Bb.out 3;have BD:=cz0 Bc.out;have BE:=cz1 Bc.out;have BF:=bF Bc.out 0;have BG:=bF Bc.out 1;have p117:0≤(x3_1:Int):=of_decide_eq_true (by first|(with_reducible assumption)|assumption);have q117:x3_1<(l0_0.length:Int):=of_decide_eq_true (by first|(with_reducible assumption)|assumption);obtain ⟨ad117,e117,hx117_0,hx117_1,hx117_2,hx117_3⟩:=at_T40 HR0_0.out x3_1 p117 q117;(try rw [← Nbq7.out] at hx117_3);obtain rfl:ad115=ad117:=(by injection e117);have hn117_0:ad115.block≠Ba:=Nat.ne_of_lt (Nat.lt_of_lt_of_le (by have:=World.block_lt_of_cell? _ _ hx117_0;first|rwa [add_block] at this|exact this) Bh.out);have hn117_1:ad115.block≠Ba:=Nat.ne_of_lt (Nat.lt_of_lt_of_le (by have:=World.block_lt_of_cell? _ _ hx117_0;first|rwa [add_block] at this|exact this) Bh.out);have hn117_2:ad115.block≠Ba:=Nat.ne_of_lt (Nat.lt_of_lt_of_le (by have:=World.block_lt_of_cell? _ _ hx117_0;first|rwa [add_block] at this|exact this) Bh.out);have hn117_3:ad115.block≠Ba:=Nat.ne_of_lt (Nat.lt_of_lt_of_le (by have:=World.block_lt_of_cell? _ _ hx117_0;first|rwa [add_block] at this|exact this) Bh.out);replace hx117_0:=(HB.out.cell (World.block_lt_of_cell? w _ hx117_0)).trans hx117_0;replace hx117_1:=(HB.out.cell (World.block_lt_of_cell? w _ hx117_1)).trans hx117_1;replace hx117_2:=(HB.out.cell (World.block_lt_of_cell? w _ hx117_2)).trans hx117_2;replace hx117_3:=(HB.out.cell (World.block_lt_of_cell? w _ hx117_3)).trans hx117_3;replace hx117_0:=(cell_far (p:=⟨Ba,0,none⟩) (by first|exact aN hn117_0|exact hn117_0) (.int .i64 ((rd_T40 l0_0 x9_1).f0))).trans hx117_0;replace hx117_1:=(cell_far (p:=⟨Ba,0,none⟩) (by first|exact aN hn117_0|exact hn117_0) (.int .i64 ((rd_T40 l0_0 x9_1).f0))).trans hx117_1;replace hx117_2:=(cell_far (p:=⟨Ba,0,none⟩) (by first|exact aN hn117_0|exact hn117_0) (.int .i64 ((rd_T40 l0_0 x9_1).f0))).trans hx117_2;replace hx117_3:=(cell_far (p:=⟨Ba,0,none⟩) (by first|exact aN hn117_0|exact hn117_0) (.int .i64 ((rd_T40 l0_0 x9_1).f0))).trans hx117_3;replace hx117_0:=(cell_far (p:=⟨Ba,1,none⟩) (by first|exact aN hn117_1|exact hn117_1) (.int .i64 ((rd_T40 l0_0 x9_1).f1))).trans hx117_0;replace hx117_1:=(cell_far (p:=⟨Ba,1,none⟩) (by first|exact aN hn117_1|exact hn117_1) (.int .i64 ((rd_T40 l0_0 x9_1).f1))).trans hx117_1;replace hx117_2:=(cell_far (p:=⟨Ba,1,none⟩) (by first|exact aN hn117_1|exact hn117_1) (.int .i64 ((rd_T40 l0_0 x9_1).f1))).trans hx117_2;replace hx117_3:=(cell_far (p:=⟨Ba,1,none⟩) (by first|exact aN hn117_1|exact hn117_1) (.int .i64 ((rd_T40 l0_0 x9_1).f1))).trans hx117_3;replace hx117_0:=(cell_far (p:=⟨Ba,2,none⟩) (by first|exact aN hn117_2|exact hn117_2) (.int .i64 ((rd_T40 l0_0 x9_1).f2))).trans hx117_0;replace hx117_1:=(cell_far (p:=⟨Ba,2,none⟩) (by first|exact aN hn117_2|exact hn117_2) (.int .i64 ((rd_T40 l0_0 x9_1).f2))).trans hx117_1;replace hx117_2:=(cell_far (p:=⟨Ba,2,none⟩) (by first|exact aN hn117_2|exact hn117_2) (.int .i64 ((rd_T40 l0_0 x9_1).f2))).trans hx117_2;replace hx117_3:=(cell_far (p:=⟨Ba,2,none⟩) (by first|exact aN hn117_2|exact hn117_2) (.int .i64 ((rd_T40 l0_0 x9_1).f2))).trans hx117_3;replace hx117_0:=(cell_far (p:=⟨Ba,3,none⟩) (by first|exact aN hn117_3|exact hn117_3) (.bool true)).trans hx117_0;replace hx117_1:=(cell_far (p:=⟨Ba,3,none⟩) (by first|exact aN hn117_3|exact hn117_3) (.bool true)).trans hx117_1;replace hx117_2:=(cell_far (p:=⟨Ba,3,none⟩) (by first|exact aN hn117_3|exact hn117_3) (.bool true)).trans hx117_2;replace hx117_3:=(cell_far (p:=⟨Ba,3,none⟩) (by first|exact aN hn117_3|exact hn117_3) (.bool true)).trans hx117_3;(try have hy117_0:=fun (n_:Nat)=>(show ((((((w16.drewN n_).setCell ⟨Ba,0,none⟩ (.int .i64 ((rd_T40 l0_0 x9_1).f0))).setCell ⟨Ba,1,none⟩ (.int .i64 ((rd_T40 l0_0 x9_1).f1))).setCell ⟨Ba,2,none⟩ (.int .i64 ((rd_T40 l0_0 x9_1).f2))).setCell ⟨Ba,3,none⟩ (.bool true))).cell? _=some _ from hx117_0));(try have hy117_1:=fun (n_:Nat)=>(show ((((((w16.drewN n_).setCell ⟨Ba,0,none⟩ (.int .i64 ((rd_T40 l0_0 x9_1).f0))).setCell ⟨Ba,1,none⟩ (.int .i64 ((rd_T40 l0_0 x9_1).f1))).setCell ⟨Ba,2,none⟩ (.int .i64 ((rd_T40 l0_0 x9_1).f2))).setCell ⟨Ba,3,none⟩ (.bool true))).cell? _=some _ from hx117_1));(try have hy117_2:=fun (n_:Nat)=>(show ((((((w16.drewN n_).setCell ⟨Ba,0,none⟩ (.int .i64 ((rd_T40 l0_0 x9_1).f0))).setCell ⟨Ba,1,none⟩ (.int .i64 ((rd_T40 l0_0 x9_1).f1))).setCell ⟨Ba,2,none⟩ (.int .i64 ((rd_T40 l0_0 x9_1).f2))).setCell ⟨Ba,3,none⟩ (.bool true))).cell? _=some _ from hx117_2));(try have hy117_3:=fun (n_:Nat)=>(show ((((((w16.drewN n_).setCell ⟨Ba,0,none⟩ (.int .i64 ((rd_T40 l0_0 x9_1).f0))).setCell ⟨Ba,1,none⟩ (.int .i64 ((rd_T40 l0_0 x9_1).f1))).setCell ⟨Ba,2,none⟩ (.int .i64 ((rd_T40 l0_0 x9_1).f2))).setCell ⟨Ba,3,none⟩ (.bool true))).cell? _=some _ from hx117_3));clear hn117_0 hn117_1 hn117_2 hn117_3;replace p117:=eq_true p117;replace q117:=eq_true q117))
    repeat (go_quiet (first|((with_reducible refine gate_dst (N:=5) rfl ?_);refine box_event ?hg (N:=5) ?hd (cs:=#[.int .i64 0,.int .i64 0,.int .i64 0,.bool false]) (t:=40) ?hr ?_;(case hd=>rfl);(case hg=>rfl);(case hr=>first|(go_simp;done)|(go_simp;rfl));intro Ba hg w16 hbox hb;have n0_:=Am (bX Bc.out hb);have n1_:=Am (bP (by repeat (first|(with_reducible first|exact HB.out|apply oA|apply pN|apply o1|refine bS ?_ Bf.out)|exact HB.out)) hb);have n2_:=Am (hbox);have n3_:=Am ((by rw [hg];exact (bZ (by repeat (first|(with_reducible first|exact HB.out|apply oA|apply pN|apply o1|refine bS ?_ Bf.out)|exact HB.out))):w.heap.size≤Ba));have n4_:=Am ((by rw [hg];exact (bZ (by repeat (first|(with_reducible first|exact HB.out|apply oA|apply pN|apply o1|refine bS ?_ Bf.out)|exact HB.out))):w.heap.size≤Ba));have n5_:=Am ((nL Bc.out hg));have n6_:=Am ((nG Bc.out hg));clear Bc HB;revert n0_ n1_ n2_ n3_ n4_ n5_ n6_;intro Bc HB Bb Bh Bi Be Bg;clear hb hbox hg;have B4:=Bg.out;have B5:=Be.out;have Bv:=cz0 Bb.out;have Bw:=cz1 Bb.out;have Bx:=cz2 Bb.out;have By:=cz3 Bb.out;have Bz:=bF Bb.out 0;have BA:=bF Bb.out 1;have BB:=bF Bb.out 2;have BC:=bF Bb.out 3;have BD:=cz0 Bc.out;have BE:=cz1 Bc.out;have BF:=bF Bc.out 0;have BG:=bF Bc.out 1;have p117:0≤(x3_1:Int):=of_decide_eq_true (by first|(with_reducible assumption)|assumption);have q117:x3_1<(l0_0.length:Int):=of_decide_eq_true (by first|(with_reducible assumption)|assumption);obtain ⟨ad117,e117,hx117_0,hx117_1,hx117_2,hx117_3⟩:=at_T40 HR0_0.out x3_1 p117 q117;(try rw [← Nbq7.out] at hx117_3);obtain rfl:ad115=ad117:=(by injection e117);have hn117_0:ad115.block≠Ba:=Nat.ne_of_lt (Nat.lt_of_lt_of_le (by have:=World.block_lt_of_cell? _ _ hx117_0;first|rwa [add_block] at this|exact this) Bh.out);have hn117_1:ad115.block≠Ba:=Nat.ne_of_lt (Nat.lt_of_lt_of_le (by have:=World.block_lt_of_cell? _ _ hx117_0;first|rwa [add_block] at this|exact this) Bh.out);have hn117_2:ad115.block≠Ba:=Nat.ne_of_lt (Nat.lt_of_lt_of_le (by have:=World.block_lt_of_cell? _ _ hx117_0;first|rwa [add_block] at this|exact this) Bh.out);have hn117_3:ad115.block≠Ba:=Nat.ne_of_lt (Nat.lt_of_lt_of_le (by have:=World.block_lt_of_cell? _ _ hx117_0;first|rwa [add_block] at this|exact this) Bh.out);replace hx117_0:=(HB.out.cell (World.block_lt_of_cell? w _ hx117_0)).trans hx117_0;replace hx117_1:=(HB.out.cell (World.block_lt_of_cell? w _ hx117_1)).trans hx117_1;replace hx117_2:=(HB.out.cell (World.block_lt_of_cell? w _ hx117_2)).trans hx117_2;replace hx117_3:=(HB.out.cell (World.block_lt_of_cell? w _ hx117_3)).trans hx117_3;replace hx117_0:=(cell_far (p:=⟨Ba,0,none⟩) (by first|exact aN hn117_0|exact hn117_0) (.int .i64 ((rd_T40 l0_0 x9_1).f0))).trans hx117_0;replace hx117_1:=(cell_far (p:=⟨Ba,0,none⟩) (by first|exact aN hn117_0|exact hn117_0) (.int .i64 ((rd_T40 l0_0 x9_1).f0))).trans hx117_1;replace hx117_2:=(cell_far (p:=⟨Ba,0,none⟩) (by first|exact aN hn117_0|exact hn117_0) (.int .i64 ((rd_T40 l0_0 x9_1).f0))).trans hx117_2;replace hx117_3:=(cell_far (p:=⟨Ba,0,none⟩) (by first|exact aN hn117_0|exact hn117_0) (.int .i64 ((rd_T40 l0_0 x9_1).f0))).trans hx117_3;replace hx117_0:=(cell_far (p:=⟨Ba,1,none⟩) (by first|exact aN hn117_1|exact hn117_1) (.int .i64 ((rd_T40 l0_0 x9_1).f1))).trans hx117_0;replace hx117_1:=(cell_far (p:=⟨Ba,1,none⟩) (by first|exact aN hn117_1|exact hn117_1) (.int .i64 ((rd_T40 l0_0 x9_1).f1))).trans hx117_1;replace hx117_2:=(cell_far (p:=⟨Ba,1,none⟩) (by first|exact aN hn117_1|exact hn117_1) (.int .i64 ((rd_T40 l0_0 x9_1).f1))).trans hx117_2;replace hx117_3:=(cell_far (p:=⟨Ba,1,none⟩) (by first|exact aN hn117_1|exact hn117_1) (.int .i64 ((rd_T40 l0_0 x9_1).f1))).trans hx117_3;replace hx117_0:=(cell_far (p:=⟨Ba,2,none⟩) (by first|exact aN hn117_2|exact hn117_2) (.int .i64 ((rd_T40 l0_0 x9_1).f2))).trans hx117_0;replace hx117_1:=(cell_far (p:=⟨Ba,2,none⟩) (by first|exact aN hn117_2|exact hn117_2) (.int .i64 ((rd_T40 l0_0 x9_1).f2))).trans hx117_1;replace hx117_2:=(cell_far (p:=⟨Ba,2,none⟩) (by first|exact aN hn117_2|exact hn117_2) (.int .i64 ((rd_T40 l0_0 x9_1).f2))).trans hx117_2;replace hx117_3:=(cell_far (p:=⟨Ba,2,none⟩) (by first|exact aN hn117_2|exact hn117_2) (.int .i64 ((rd_T40 l0_0 x9_1).f2))).trans hx117_3;replace hx117_0:=(cell_far (p:=⟨Ba,3,none⟩) (by first|exact aN hn117_3|exact hn117_3) (.bool true)).trans hx117_0;replace hx117_1:=(cell_far (p:=⟨Ba,3,none⟩) (by first|exact aN hn117_3|exact hn117_3) (.bool true)).trans hx117_1;replace hx117_2:=(cell_far (p:=⟨Ba,3,none⟩) (by first|exact aN hn117_3|exact hn117_3) (.bool true)).trans hx117_2;replace hx117_3:=(cell_far (p:=⟨Ba,3,none⟩) (by first|exact aN hn117_3|exact hn117_3) (.bool true)).trans hx117_3;(try have hy117_0:=fun (n_:Nat)=>(show ((((((w16.drewN n_).setCell ⟨Ba,0,none⟩ (.int .i64 ((rd_T40 l0_0 x9_1).f0))).setCell ⟨Ba,1,none⟩ (.int .i64 ((rd_T40 l0_0 x9_1).f1))).setCell ⟨Ba,2,none⟩ (.int .i64 ((rd_T40 l0_0 x9_1).f2))).setCell ⟨Ba,3,none⟩ (.bool true))).cell? _=some _ from hx117_0));(try have hy117_1:=fun (n_:Nat)=>(show ((((((w16.drewN n_).setCell ⟨Ba,0,none⟩ (.int .i64 ((rd_T40 l0_0 x9_1).f0))).setCell ⟨Ba,1,none⟩ (.int .i64 ((rd_T40 l0_0 x9_1).f1))).setCell ⟨Ba,2,none⟩ (.int .i64 ((rd_T40 l0_0 x9_1).f2))).setCell ⟨Ba,3,none⟩ (.bool true))).cell? _=some _ from hx117_1));(try have hy117_2:=fun (n_:Nat)=>(show ((((((w16.drewN n_).setCell ⟨Ba,0,none⟩ (.int .i64 ((rd_T40 l0_0 x9_1).f0))).setCell ⟨Ba,1,none⟩ (.int .i64 ((rd_T40 l0_0 x9_1).f1))).setCell ⟨Ba,2,none⟩ (.int .i64 ((rd_T40 l0_0 x9_1).f2))).setCell ⟨Ba,3,none⟩ (.bool true))).cell? _=some _ from hx117_2));(try have hy117_3:=fun (n_:Nat)=>(show ((((((w16.drewN n_).setCell ⟨Ba,0,none⟩ (.int .i64 ((rd_T40 l0_0 x9_1).f0))).setCell ⟨Ba,1,none⟩ (.int .i64 ((rd_T40 l0_0 x9_1).f1))).setCell ⟨Ba,2,none⟩ (.int .i64 ((rd_T40 l0_0 x9_1).f2))).setCell ⟨Ba,3,none⟩ (.bool true))).cell? _=some _ from hx117_3));clear hn117_0 hn117_1 hn117_2 hn117_3;replace p117:=eq_true p117;replace q117:=eq_true q117));try go_wp2_with (first|((with_reducible refine gate_dst (N:=5) rfl ?_);refine box_event ?hg (N:=5) ?hd (cs:=#[.int .i64 0,.int .i64 0,.int .i64 0,.bool false]) (t:=40) ?hr ?_;(case hd=>rfl);(case hg=>rfl);(case hr=>first|(go_simp;done)|(go_simp;rfl));intro Ba hg w16 hbox hb;have n0_:=Am (bX Bc.out hb);have n1_:=Am (bP (by repeat (first|(with_reducible first|exact HB.out|apply oA|apply pN|apply o1|refine bS ?_ Bf.out)|exact HB.out)) hb);have n2_:=Am (hbox);have n3_:=Am ((by rw [hg];exact (bZ (by repeat (first|(with_reducible first|exact HB.out|apply oA|apply pN|apply o1|refine bS ?_ Bf.out)|exact HB.out))):w.heap.size≤Ba));have n4_:=Am ((by rw [hg];exact (bZ (by repeat (first|(with_reducible first|exact HB.out|apply oA|apply pN|apply o1|refine bS ?_ Bf.out)|exact HB.out))):w.heap.size≤Ba));have n5_:=Am ((nL Bc.out hg));have n6_:=Am ((nG Bc.out hg));clear Bc HB;revert n0_ n1_ n2_ n3_ n4_ n5_ n6_;intro Bc HB Bb Bh Bi Be Bg;clear hb hbox hg;have B4:=Bg.out;have B5:=Be.out;have Bv:=cz0 Bb.out;have Bw:=cz1 Bb.out;have Bx:=cz2 Bb.out;have By:=cz3 Bb.out;have Bz:=bF Bb.out 0;have BA:=bF Bb.out 1;have BB:=bF Bb.out 2;have BC:=bF Bb.out 3;have BD:=cz0 Bc.out;have BE:=cz1 Bc.out;have BF:=bF Bc.out 0;have BG:=bF Bc.out 1;have p117:0≤(x3_1:Int):=of_decide_eq_true (by first|(with_reducible assumption)|assumption);have q117:x3_1<(l0_0.length:Int):=of_decide_eq_true (by first|(with_reducible assumption)|assumption);obtain ⟨ad117,e117,hx117_0,hx117_1,hx117_2,hx117_3⟩:=at_T40 HR0_0.out x3_1 p117 q117;(try rw [← Nbq7.out] at hx117_3);obtain rfl:ad115=ad117:=(by injection e117);have hn117_0:ad115.block≠Ba:=Nat.ne_of_lt (Nat.lt_of_lt_of_le (by have:=World.block_lt_of_cell? _ _ hx117_0;first|rwa [add_block] at this|exact this) Bh.out);have hn117_1:ad115.block≠Ba:=Nat.ne_of_lt (Nat.lt_of_lt_of_le (by have:=World.block_lt_of_cell? _ _ hx117_0;first|rwa [add_block] at this|exact this) Bh.out);have hn117_2:ad115.block≠Ba:=Nat.ne_of_lt (Nat.lt_of_lt_of_le (by have:=World.block_lt_of_cell? _ _ hx117_0;first|rwa [add_block] at this|exact this) Bh.out);have hn117_3:ad115.block≠Ba:=Nat.ne_of_lt (Nat.lt_of_lt_of_le (by have:=World.block_lt_of_cell? _ _ hx117_0;first|rwa [add_block] at this|exact this) Bh.out);replace hx117_0:=(HB.out.cell (World.block_lt_of_cell? w _ hx117_0)).trans hx117_0;replace hx117_1:=(HB.out.cell (World.block_lt_of_cell? w _ hx117_1)).trans hx117_1;replace hx117_2:=(HB.out.cell (World.block_lt_of_cell? w _ hx117_2)).trans hx117_2;replace hx117_3:=(HB.out.cell (World.block_lt_of_cell? w _ hx117_3)).trans hx117_3;replace hx117_0:=(cell_far (p:=⟨Ba,0,none⟩) (by first|exact aN hn117_0|exact hn117_0) (.int .i64 ((rd_T40 l0_0 x9_1).f0))).trans hx117_0;replace hx117_1:=(cell_far (p:=⟨Ba,0,none⟩) (by first|exact aN hn117_0|exact hn117_0) (.int .i64 ((rd_T40 l0_0 x9_1).f0))).trans hx117_1;replace hx117_2:=(cell_far (p:=⟨Ba,0,none⟩) (by first|exact aN hn117_0|exact hn117_0) (.int .i64 ((rd_T40 l0_0 x9_1).f0))).trans hx117_2;replace hx117_3:=(cell_far (p:=⟨Ba,0,none⟩) (by first|exact aN hn117_0|exact hn117_0) (.int .i64 ((rd_T40 l0_0 x9_1).f0))).trans hx117_3;replace hx117_0:=(cell_far (p:=⟨Ba,1,none⟩) (by first|exact aN hn117_1|exact hn117_1) (.int .i64 ((rd_T40 l0_0 x9_1).f1))).trans hx117_0;replace hx117_1:=(cell_far (p:=⟨Ba,1,none⟩) (by first|exact aN hn117_1|exact hn117_1) (.int .i64 ((rd_T40 l0_0 x9_1).f1))).trans hx117_1;replace hx117_2:=(cell_far (p:=⟨Ba,1,none⟩) (by first|exact aN hn117_1|exact hn117_1) (.int .i64 ((rd_T40 l0_0 x9_1).f1))).trans hx117_2;replace hx117_3:=(cell_far (p:=⟨Ba,1,none⟩) (by first|exact aN hn117_1|exact hn117_1) (.int .i64 ((rd_T40 l0_0 x9_1).f1))).trans hx117_3;replace hx117_0:=(cell_far (p:=⟨Ba,2,none⟩) (by first|exact aN hn117_2|exact hn117_2) (.int .i64 ((rd_T40 l0_0 x9_1).f2))).trans hx117_0;replace hx117_1:=(cell_far (p:=⟨Ba,2,none⟩) (by first|exact aN hn117_2|exact hn117_2) (.int .i64 ((rd_T40 l0_0 x9_1).f2))).trans hx117_1;replace hx117_2:=(cell_far (p:=⟨Ba,2,none⟩) (by first|exact aN hn117_2|exact hn117_2) (.int .i64 ((rd_T40 l0_0 x9_1).f2))).trans hx117_2;replace hx117_3:=(cell_far (p:=⟨Ba,2,none⟩) (by first|exact aN hn117_2|exact hn117_2) (.int .i64 ((rd_T40 l0_0 x9_1).f2))).trans hx117_3;replace hx117_0:=(cell_far (p:=⟨Ba,3,none⟩) (by first|exact aN hn117_3|exact hn117_3) (.bool true)).trans hx117_0;replace hx117_1:=(cell_far (p:=⟨Ba,3,none⟩) (by first|exact aN hn117_3|exact hn117_3) (.bool true)).trans hx117_1;replace hx117_2:=(cell_far (p:=⟨Ba,3,none⟩) (by first|exact aN hn117_3|exact hn117_3) (.bool true)).trans hx117_2;replace hx117_3:=(cell_far (p:=⟨Ba,3,none⟩) (by first|exact aN hn117_3|exact hn117_3) (.bool true)).trans hx117_3;(try have hy117_0:=fun (n_:Nat)=>(show ((((((w16.drewN n_).setCell ⟨Ba,0,none⟩ (.int .i64 ((rd_T40 l0_0 x9_1).f0))).setCell ⟨Ba,1,none⟩ (.int .i64 ((rd_T40 l0_0 x9_1).f1))).setCell ⟨Ba,2,none⟩ (.int .i64 ((rd_T40 l0_0 x9_1).f2))).setCell ⟨Ba,3,none⟩ (.bool true))).cell? _=some _ from hx117_0));(try have hy117_1:=fun (n_:Nat)=>(show ((((((w16.drewN n_).setCell ⟨Ba,0,none⟩ (.int .i64 ((rd_T40 l0_0 x9_1).f0))).setCell ⟨Ba,1,none⟩ (.int .i64 ((rd_T40 l0_0 x9_1).f1))).setCell ⟨Ba,2,none⟩ (.int .i64 ((rd_T40 l0_0 x9_1).f2))).setCell ⟨Ba,3,none⟩ (.bool true))).cell? _=some _ from hx117_1));(try have hy117_2:=fun (n_:Nat)=>(show ((((((w16.drewN n_).setCell ⟨Ba,0,none⟩ (.int .i64 ((rd_T40 l0_0 x9_1).f0))).setCell ⟨Ba,1,none⟩ (.int .i64 ((rd_T40 l0_0 x9_1).f1))).setCell ⟨Ba,2,none⟩ (.int .i64 ((rd_T40 l0_0 x9_1).f2))).setCell ⟨Ba,3,none⟩ (.bool true))).cell? _=some _ from hx117_2));(try have hy117_3:=fun (n_:Nat)=>(show ((((((w16.drewN n_).setCell ⟨Ba,0,none⟩ (.int .i64 ((rd_T40 l0_0 x9_1).f0))).setCell ⟨Ba,1,none⟩ (.int .i64 ((rd_T40 l0_0 x9_1).f1))).setCell ⟨Ba,2,none⟩ (.int .i64 ((rd_T40 l0_0 x9_1).f2))).setCell ⟨Ba,3,none⟩ (.bool true))).cell? _=some _ from hx117_3));clear hn117_0 hn117_1 hn117_2 hn117_3;replace p117:=eq_true p117;replace q117:=eq_true q117)))
    go_roundg k1
    case measure=>have:=HK1.out;omega
    case rel=>exact ⟨(x9_1),(wrap64 (x9_1 + 1)),(by first|rfl|(simp;done)|(simp [*];done)),(by first|rfl|(simp;done)|(simp [*];done)),H',⟨by have:=HK1.out;omega⟩,⟨by (with_reducible repeat (first|refine bN ?_ _|refine bD ?_|refine bA ?_ _|refine blk_far ?_ Be.out _));exact Bc.out⟩,⟨by repeat (first|(with_reducible first|exact HB.out|apply oA|apply pN|apply o1|refine bS ?_ Bf.out|refine bS ?_ Bi.out)|exact HB.out)⟩⟩
   rw [if_neg c15] at H
   have c15b0:decide (((rd_T40 l0_0 x9_1).f2)<((rd_T40 l0_0 x3_1).f2))=false:=decide_eq_false c15
   clear c15
   have H':=Am H
   clear H
   have p115:0≤(x9_1:Int):=of_decide_eq_true (by first|(with_reducible assumption)|assumption)
   have q115:x9_1<(l0_0.length:Int):=of_decide_eq_true (by first|(with_reducible assumption)|assumption)
   obtain ⟨ad115,e115,hx115_0,hx115_1,hx115_2,hx115_3⟩:=at_T40 HR0_0.out x9_1 p115 q115
   (try rw [← Nbq7.out] at hx115_3)
   cases e115
   replace hx115_0:=(bW HB hx115_0:)
   replace hx115_1:=(bW HB hx115_1:)
   replace hx115_2:=(bW HB hx115_2:)
   replace hx115_3:=(bW HB hx115_3:)
   replace p115:=eq_true p115
   replace q115:=eq_true q115
   go_wp2_with (first|((with_reducible refine gate_dst (N:=5) rfl ?_);refine box_event ?hg (N:=5) ?hd (cs:=#[.int .i64 0,.int .i64 0,.int .i64 0,.bool false]) (t:=40) ?hr ?_;(case hd=>rfl);(case hg=>rfl);(case hr=>first|(go_simp;done)|(go_simp;rfl));intro Ba hg w20 hbox hb;have n0_:=Am (bX Bc.out hb);have n1_:=Am (bP (by repeat (first|(with_reducible first|exact HB.out|apply oA|apply pN|apply o1|refine bS ?_ Bf.out)|exact HB.out)) hb);have n2_:=Am (hbox);have n3_:=Am ((by rw [hg];exact (bZ (by repeat (first|(with_reducible first|exact HB.out|apply oA|apply pN|apply o1|refine bS ?_ Bf.out)|exact HB.out))):w.heap.size≤Ba));have n4_:=Am ((by rw [hg];exact (bZ (by repeat (first|(with_reducible first|exact HB.out|apply oA|apply pN|apply o1|refine bS ?_ Bf.out)|exact HB.out))):w.heap.size≤Ba));have n5_:=Am ((nL Bc.out hg));have n6_:=Am ((nG Bc.out hg));clear Bc HB;revert n0_ n1_ n2_ n3_ n4_ n5_ n6_;intro Bc HB Bb Bh Bi Be Bg;clear hb hbox hg;have B6:=Bg.out;have B7:=Be.out;have BH:=cz0 Bb.out;have BI:=cz1 Bb.out;have BJ:=cz2 Bb.out;have BK:=cz3 Bb.out;have BL:=bF Bb.out 0;have BM:=bF Bb.out 1;have BN:=bF Bb.out 2;have BO:=bF Bb.out 3;have BP:=cz0 Bc.out;have BQ:=cz1 Bc.out;have BR:=bF Bc.out 0;have BS:=bF Bc.out 1;have p117:0≤(x3_1:Int):=of_decide_eq_true (by first|(with_reducible assumption)|assumption);have q117:x3_1<(l0_0.length:Int):=of_decide_eq_true (by first|(with_reducible assumption)|assumption);obtain ⟨ad117,e117,hx117_0,hx117_1,hx117_2,hx117_3⟩:=at_T40 HR0_0.out x3_1 p117 q117;(try rw [← Nbq7.out] at hx117_3);obtain rfl:ad115=ad117:=(by injection e117);have hn117_0:ad115.block≠Ba:=Nat.ne_of_lt (Nat.lt_of_lt_of_le (by have:=World.block_lt_of_cell? _ _ hx117_0;first|rwa [add_block] at this|exact this) Bh.out);have hn117_1:ad115.block≠Ba:=Nat.ne_of_lt (Nat.lt_of_lt_of_le (by have:=World.block_lt_of_cell? _ _ hx117_0;first|rwa [add_block] at this|exact this) Bh.out);have hn117_2:ad115.block≠Ba:=Nat.ne_of_lt (Nat.lt_of_lt_of_le (by have:=World.block_lt_of_cell? _ _ hx117_0;first|rwa [add_block] at this|exact this) Bh.out);have hn117_3:ad115.block≠Ba:=Nat.ne_of_lt (Nat.lt_of_lt_of_le (by have:=World.block_lt_of_cell? _ _ hx117_0;first|rwa [add_block] at this|exact this) Bh.out);replace hx117_0:=(HB.out.cell (World.block_lt_of_cell? w _ hx117_0)).trans hx117_0;replace hx117_1:=(HB.out.cell (World.block_lt_of_cell? w _ hx117_1)).trans hx117_1;replace hx117_2:=(HB.out.cell (World.block_lt_of_cell? w _ hx117_2)).trans hx117_2;replace hx117_3:=(HB.out.cell (World.block_lt_of_cell? w _ hx117_3)).trans hx117_3;replace hx117_0:=(cell_far (p:=⟨Ba,0,none⟩) (by first|exact aN hn117_0|exact hn117_0) (.int .i64 ((rd_T40 l0_0 x9_1).f0))).trans hx117_0;replace hx117_1:=(cell_far (p:=⟨Ba,0,none⟩) (by first|exact aN hn117_0|exact hn117_0) (.int .i64 ((rd_T40 l0_0 x9_1).f0))).trans hx117_1;replace hx117_2:=(cell_far (p:=⟨Ba,0,none⟩) (by first|exact aN hn117_0|exact hn117_0) (.int .i64 ((rd_T40 l0_0 x9_1).f0))).trans hx117_2;replace hx117_3:=(cell_far (p:=⟨Ba,0,none⟩) (by first|exact aN hn117_0|exact hn117_0) (.int .i64 ((rd_T40 l0_0 x9_1).f0))).trans hx117_3;replace hx117_0:=(cell_far (p:=⟨Ba,1,none⟩) (by first|exact aN hn117_1|exact hn117_1) (.int .i64 ((rd_T40 l0_0 x9_1).f1))).trans hx117_0;replace hx117_1:=(cell_far (p:=⟨Ba,1,none⟩) (by first|exact aN hn117_1|exact hn117_1) (.int .i64 ((rd_T40 l0_0 x9_1).f1))).trans hx117_1;replace hx117_2:=(cell_far (p:=⟨Ba,1,none⟩) (by first|exact aN hn117_1|exact hn117_1) (.int .i64 ((rd_T40 l0_0 x9_1).f1))).trans hx117_2;replace hx117_3:=(cell_far (p:=⟨Ba,1,none⟩) (by first|exact aN hn117_1|exact hn117_1) (.int .i64 ((rd_T40 l0_0 x9_1).f1))).trans hx117_3;replace hx117_0:=(cell_far (p:=⟨Ba,2,none⟩) (by first|exact aN hn117_2|exact hn117_2) (.int .i64 ((rd_T40 l0_0 x9_1).f2))).trans hx117_0;replace hx117_1:=(cell_far (p:=⟨Ba,2,none⟩) (by first|exact aN hn117_2|exact hn117_2) (.int .i64 ((rd_T40 l0_0 x9_1).f2))).trans hx117_1;replace hx117_2:=(cell_far (p:=⟨Ba,2,none⟩) (by first|exact aN hn117_2|exact hn117_2) (.int .i64 ((rd_T40 l0_0 x9_1).f2))).trans hx117_2;replace hx117_3:=(cell_far (p:=⟨Ba,2,none⟩) (by first|exact aN hn117_2|exact hn117_2) (.int .i64 ((rd_T40 l0_0 x9_1).f2))).trans hx117_3;replace hx117_0:=(cell_far (p:=⟨Ba,3,none⟩) (by first|exact aN hn117_3|exact hn117_3) (.bool true)).trans hx117_0;replace hx117_1:=(cell_far (p:=⟨Ba,3,none⟩) (by first|exact aN hn117_3|exact hn117_3) (.bool true)).trans hx117_1;replace hx117_2:=(cell_far (p:=⟨Ba,3,none⟩) (by first|exact aN hn117_3|exact hn117_3) (.bool true)).trans hx117_2;replace hx117_3:=(cell_far (p:=⟨Ba,3,none⟩) (by first|exact aN hn117_3|exact hn117_3) (.bool true)).trans hx117_3;(try have hy117_0:=fun (n_:Nat)=>(show ((((((w20.drewN n_).setCell ⟨Ba,0,none⟩ (.int .i64 ((rd_T40 l0_0 x9_1).f0))).setCell ⟨Ba,1,none⟩ (.int .i64 ((rd_T40 l0_0 x9_1).f1))).setCell ⟨Ba,2,none⟩ (.int .i64 ((rd_T40 l0_0 x9_1).f2))).setCell ⟨Ba,3,none⟩ (.bool true))).cell? _=some _ from hx117_0));(try have hy117_1:=fun (n_:Nat)=>(show ((((((w20.drewN n_).setCell ⟨Ba,0,none⟩ (.int .i64 ((rd_T40 l0_0 x9_1).f0))).setCell ⟨Ba,1,none⟩ (.int .i64 ((rd_T40 l0_0 x9_1).f1))).setCell ⟨Ba,2,none⟩ (.int .i64 ((rd_T40 l0_0 x9_1).f2))).setCell ⟨Ba,3,none⟩ (.bool true))).cell? _=some _ from hx117_1));(try have hy117_2:=fun (n_:Nat)=>(show ((((((w20.drewN n_).setCell ⟨Ba,0,none⟩ (.int .i64 ((rd_T40 l0_0 x9_1).f0))).setCell ⟨Ba,1,none⟩ (.int .i64 ((rd_T40 l0_0 x9_1).f1))).setCell ⟨Ba,2,none⟩ (.int .i64 ((rd_T40 l0_0 x9_1).f2))).setCell ⟨Ba,3,none⟩ (.bool true))).cell? _=some _ from hx117_2));(try have hy117_3:=fun (n_:Nat)=>(show ((((((w20.drewN n_).setCell ⟨Ba,0,none⟩ (.int .i64 ((rd_T40 l0_0 x9_1).f0))).setCell ⟨Ba,1,none⟩ (.int .i64 ((rd_T40 l0_0 x9_1).f1))).setCell ⟨Ba,2,none⟩ (.int .i64 ((rd_T40 l0_0 x9_1).f2))).setCell ⟨Ba,3,none⟩ (.bool true))).cell? _=some _ from hx117_3));clear hn117_0 hn117_1 hn117_2 hn117_3;replace p117:=eq_true p117;replace q117:=eq_true q117))
   repeat (go_quiet (first|((with_reducible refine gate_dst (N:=5) rfl ?_);refine box_event ?hg (N:=5) ?hd (cs:=#[.int .i64 0,.int .i64 0,.int .i64 0,.bool false]) (t:=40) ?hr ?_;(case hd=>rfl);(case hg=>rfl);(case hr=>first|(go_simp;done)|(go_simp;rfl));intro Ba hg w20 hbox hb;have n0_:=Am (bX Bc.out hb);have n1_:=Am (bP (by repeat (first|(with_reducible first|exact HB.out|apply oA|apply pN|apply o1|refine bS ?_ Bf.out)|exact HB.out)) hb);have n2_:=Am (hbox);have n3_:=Am ((by rw [hg];exact (bZ (by repeat (first|(with_reducible first|exact HB.out|apply oA|apply pN|apply o1|refine bS ?_ Bf.out)|exact HB.out))):w.heap.size≤Ba));have n4_:=Am ((by rw [hg];exact (bZ (by repeat (first|(with_reducible first|exact HB.out|apply oA|apply pN|apply o1|refine bS ?_ Bf.out)|exact HB.out))):w.heap.size≤Ba));have n5_:=Am ((nL Bc.out hg));have n6_:=Am ((nG Bc.out hg));clear Bc HB;revert n0_ n1_ n2_ n3_ n4_ n5_ n6_;intro Bc HB Bb Bh Bi Be Bg;clear hb hbox hg;have B6:=Bg.out;have B7:=Be.out;have BH:=cz0 Bb.out;have BI:=cz1 Bb.out;have BJ:=cz2 Bb.out;have BK:=cz3 Bb.out;have BL:=bF Bb.out 0;have BM:=bF Bb.out 1;have BN:=bF Bb.out 2;have BO:=bF Bb.out 3;have BP:=cz0 Bc.out;have BQ:=cz1 Bc.out;have BR:=bF Bc.out 0;have BS:=bF Bc.out 1;have p117:0≤(x3_1:Int):=of_decide_eq_true (by first|(with_reducible assumption)|assumption);have q117:x3_1<(l0_0.length:Int):=of_decide_eq_true (by first|(with_reducible assumption)|assumption);obtain ⟨ad117,e117,hx117_0,hx117_1,hx117_2,hx117_3⟩:=at_T40 HR0_0.out x3_1 p117 q117;(try rw [← Nbq7.out] at hx117_3);obtain rfl:ad115=ad117:=(by injection e117);have hn117_0:ad115.block≠Ba:=Nat.ne_of_lt (Nat.lt_of_lt_of_le (by have:=World.block_lt_of_cell? _ _ hx117_0;first|rwa [add_block] at this|exact this) Bh.out);have hn117_1:ad115.block≠Ba:=Nat.ne_of_lt (Nat.lt_of_lt_of_le (by have:=World.block_lt_of_cell? _ _ hx117_0;first|rwa [add_block] at this|exact this) Bh.out);have hn117_2:ad115.block≠Ba:=Nat.ne_of_lt (Nat.lt_of_lt_of_le (by have:=World.block_lt_of_cell? _ _ hx117_0;first|rwa [add_block] at this|exact this) Bh.out);have hn117_3:ad115.block≠Ba:=Nat.ne_of_lt (Nat.lt_of_lt_of_le (by have:=World.block_lt_of_cell? _ _ hx117_0;first|rwa [add_block] at this|exact this) Bh.out);replace hx117_0:=(HB.out.cell (World.block_lt_of_cell? w _ hx117_0)).trans hx117_0;replace hx117_1:=(HB.out.cell (World.block_lt_of_cell? w _ hx117_1)).trans hx117_1;replace hx117_2:=(HB.out.cell (World.block_lt_of_cell? w _ hx117_2)).trans hx117_2;replace hx117_3:=(HB.out.cell (World.block_lt_of_cell? w _ hx117_3)).trans hx117_3;replace hx117_0:=(cell_far (p:=⟨Ba,0,none⟩) (by first|exact aN hn117_0|exact hn117_0) (.int .i64 ((rd_T40 l0_0 x9_1).f0))).trans hx117_0;replace hx117_1:=(cell_far (p:=⟨Ba,0,none⟩) (by first|exact aN hn117_0|exact hn117_0) (.int .i64 ((rd_T40 l0_0 x9_1).f0))).trans hx117_1;replace hx117_2:=(cell_far (p:=⟨Ba,0,none⟩) (by first|exact aN hn117_0|exact hn117_0) (.int .i64 ((rd_T40 l0_0 x9_1).f0))).trans hx117_2;replace hx117_3:=(cell_far (p:=⟨Ba,0,none⟩) (by first|exact aN hn117_0|exact hn117_0) (.int .i64 ((rd_T40 l0_0 x9_1).f0))).trans hx117_3;replace hx117_0:=(cell_far (p:=⟨Ba,1,none⟩) (by first|exact aN hn117_1|exact hn117_1) (.int .i64 ((rd_T40 l0_0 x9_1).f1))).trans hx117_0;replace hx117_1:=(cell_far (p:=⟨Ba,1,none⟩) (by first|exact aN hn117_1|exact hn117_1) (.int .i64 ((rd_T40 l0_0 x9_1).f1))).trans hx117_1;replace hx117_2:=(cell_far (p:=⟨Ba,1,none⟩) (by first|exact aN hn117_1|exact hn117_1) (.int .i64 ((rd_T40 l0_0 x9_1).f1))).trans hx117_2;replace hx117_3:=(cell_far (p:=⟨Ba,1,none⟩) (by first|exact aN hn117_1|exact hn117_1) (.int .i64 ((rd_T40 l0_0 x9_1).f1))).trans hx117_3;replace hx117_0:=(cell_far (p:=⟨Ba,2,none⟩) (by first|exact aN hn117_2|exact hn117_2) (.int .i64 ((rd_T40 l0_0 x9_1).f2))).trans hx117_0;replace hx117_1:=(cell_far (p:=⟨Ba,2,none⟩) (by first|exact aN hn117_2|exact hn117_2) (.int .i64 ((rd_T40 l0_0 x9_1).f2))).trans hx117_1;replace hx117_2:=(cell_far (p:=⟨Ba,2,none⟩) (by first|exact aN hn117_2|exact hn117_2) (.int .i64 ((rd_T40 l0_0 x9_1).f2))).trans hx117_2;replace hx117_3:=(cell_far (p:=⟨Ba,2,none⟩) (by first|exact aN hn117_2|exact hn117_2) (.int .i64 ((rd_T40 l0_0 x9_1).f2))).trans hx117_3;replace hx117_0:=(cell_far (p:=⟨Ba,3,none⟩) (by first|exact aN hn117_3|exact hn117_3) (.bool true)).trans hx117_0;replace hx117_1:=(cell_far (p:=⟨Ba,3,none⟩) (by first|exact aN hn117_3|exact hn117_3) (.bool true)).trans hx117_1;replace hx117_2:=(cell_far (p:=⟨Ba,3,none⟩) (by first|exact aN hn117_3|exact hn117_3) (.bool true)).trans hx117_2;replace hx117_3:=(cell_far (p:=⟨Ba,3,none⟩) (by first|exact aN hn117_3|exact hn117_3) (.bool true)).trans hx117_3;(try have hy117_0:=fun (n_:Nat)=>(show ((((((w20.drewN n_).setCell ⟨Ba,0,none⟩ (.int .i64 ((rd_T40 l0_0 x9_1).f0))).setCell ⟨Ba,1,none⟩ (.int .i64 ((rd_T40 l0_0 x9_1).f1))).setCell ⟨Ba,2,none⟩ (.int .i64 ((rd_T40 l0_0 x9_1).f2))).setCell ⟨Ba,3,none⟩ (.bool true))).cell? _=some _ from hx117_0));(try have hy117_1:=fun (n_:Nat)=>(show ((((((w20.drewN n_).setCell ⟨Ba,0,none⟩ (.int .i64 ((rd_T40 l0_0 x9_1).f0))).setCell ⟨Ba,1,none⟩ (.int .i64 ((rd_T40 l0_0 x9_1).f1))).setCell ⟨Ba,2,none⟩ (.int .i64 ((rd_T40 l0_0 x9_1).f2))).setCell ⟨Ba,3,none⟩ (.bool true))).cell? _=some _ from hx117_1));(try have hy117_2:=fun (n_:Nat)=>(show ((((((w20.drewN n_).setCell ⟨Ba,0,none⟩ (.int .i64 ((rd_T40 l0_0 x9_1).f0))).setCell ⟨Ba,1,none⟩ (.int .i64 ((rd_T40 l0_0 x9_1).f1))).setCell ⟨Ba,2,none⟩ (.int .i64 ((rd_T40 l0_0 x9_1).f2))).setCell ⟨Ba,3,none⟩ (.bool true))).cell? _=some _ from hx117_2));(try have hy117_3:=fun (n_:Nat)=>(show ((((((w20.drewN n_).setCell ⟨Ba,0,none⟩ (.int .i64 ((rd_T40 l0_0 x9_1).f0))).setCell ⟨Ba,1,none⟩ (.int .i64 ((rd_T40 l0_0 x9_1).f1))).setCell ⟨Ba,2,none⟩ (.int .i64 ((rd_T40 l0_0 x9_1).f2))).setCell ⟨Ba,3,none⟩ (.bool true))).cell? _=some _ from hx117_3));clear hn117_0 hn117_1 hn117_2 hn117_3;replace p117:=eq_true p117;replace q117:=eq_true q117));try go_wp2_with (first|((with_reducible refine gate_dst (N:=5) rfl ?_);refine box_event ?hg (N:=5) ?hd (cs:=#[.int .i64 0,.int .i64 0,.int .i64 0,.bool false]) (t:=40) ?hr ?_;(case hd=>rfl);(case hg=>rfl);(case hr=>first|(go_simp;done)|(go_simp;rfl));intro Ba hg w20 hbox hb;have n0_:=Am (bX Bc.out hb);have n1_:=Am (bP (by repeat (first|(with_reducible first|exact HB.out|apply oA|apply pN|apply o1|refine bS ?_ Bf.out)|exact HB.out)) hb);have n2_:=Am (hbox);have n3_:=Am ((by rw [hg];exact (bZ (by repeat (first|(with_reducible first|exact HB.out|apply oA|apply pN|apply o1|refine bS ?_ Bf.out)|exact HB.out))):w.heap.size≤Ba));have n4_:=Am ((by rw [hg];exact (bZ (by repeat (first|(with_reducible first|exact HB.out|apply oA|apply pN|apply o1|refine bS ?_ Bf.out)|exact HB.out))):w.heap.size≤Ba));have n5_:=Am ((nL Bc.out hg));have n6_:=Am ((nG Bc.out hg));clear Bc HB;revert n0_ n1_ n2_ n3_ n4_ n5_ n6_;intro Bc HB Bb Bh Bi Be Bg;clear hb hbox hg;have B6:=Bg.out;have B7:=Be.out;have BH:=cz0 Bb.out;have BI:=cz1 Bb.out;have BJ:=cz2 Bb.out;have BK:=cz3 Bb.out;have BL:=bF Bb.out 0;have BM:=bF Bb.out 1;have BN:=bF Bb.out 2;have BO:=bF Bb.out 3;have BP:=cz0 Bc.out;have BQ:=cz1 Bc.out;have BR:=bF Bc.out 0;have BS:=bF Bc.out 1;have p117:0≤(x3_1:Int):=of_decide_eq_true (by first|(with_reducible assumption)|assumption);have q117:x3_1<(l0_0.length:Int):=of_decide_eq_true (by first|(with_reducible assumption)|assumption);obtain ⟨ad117,e117,hx117_0,hx117_1,hx117_2,hx117_3⟩:=at_T40 HR0_0.out x3_1 p117 q117;(try rw [← Nbq7.out] at hx117_3);obtain rfl:ad115=ad117:=(by injection e117);have hn117_0:ad115.block≠Ba:=Nat.ne_of_lt (Nat.lt_of_lt_of_le (by have:=World.block_lt_of_cell? _ _ hx117_0;first|rwa [add_block] at this|exact this) Bh.out);have hn117_1:ad115.block≠Ba:=Nat.ne_of_lt (Nat.lt_of_lt_of_le (by have:=World.block_lt_of_cell? _ _ hx117_0;first|rwa [add_block] at this|exact this) Bh.out);have hn117_2:ad115.block≠Ba:=Nat.ne_of_lt (Nat.lt_of_lt_of_le (by have:=World.block_lt_of_cell? _ _ hx117_0;first|rwa [add_block] at this|exact this) Bh.out);have hn117_3:ad115.block≠Ba:=Nat.ne_of_lt (Nat.lt_of_lt_of_le (by have:=World.block_lt_of_cell? _ _ hx117_0;first|rwa [add_block] at this|exact this) Bh.out);replace hx117_0:=(HB.out.cell (World.block_lt_of_cell? w _ hx117_0)).trans hx117_0;replace hx117_1:=(HB.out.cell (World.block_lt_of_cell? w _ hx117_1)).trans hx117_1;replace hx117_2:=(HB.out.cell (World.block_lt_of_cell? w _ hx117_2)).trans hx117_2;replace hx117_3:=(HB.out.cell (World.block_lt_of_cell? w _ hx117_3)).trans hx117_3;replace hx117_0:=(cell_far (p:=⟨Ba,0,none⟩) (by first|exact aN hn117_0|exact hn117_0) (.int .i64 ((rd_T40 l0_0 x9_1).f0))).trans hx117_0;replace hx117_1:=(cell_far (p:=⟨Ba,0,none⟩) (by first|exact aN hn117_0|exact hn117_0) (.int .i64 ((rd_T40 l0_0 x9_1).f0))).trans hx117_1;replace hx117_2:=(cell_far (p:=⟨Ba,0,none⟩) (by first|exact aN hn117_0|exact hn117_0) (.int .i64 ((rd_T40 l0_0 x9_1).f0))).trans hx117_2;replace hx117_3:=(cell_far (p:=⟨Ba,0,none⟩) (by first|exact aN hn117_0|exact hn117_0) (.int .i64 ((rd_T40 l0_0 x9_1).f0))).trans hx117_3;replace hx117_0:=(cell_far (p:=⟨Ba,1,none⟩) (by first|exact aN hn117_1|exact hn117_1) (.int .i64 ((rd_T40 l0_0 x9_1).f1))).trans hx117_0;replace hx117_1:=(cell_far (p:=⟨Ba,1,none⟩) (by first|exact aN hn117_1|exact hn117_1) (.int .i64 ((rd_T40 l0_0 x9_1).f1))).trans hx117_1;replace hx117_2:=(cell_far (p:=⟨Ba,1,none⟩) (by first|exact aN hn117_1|exact hn117_1) (.int .i64 ((rd_T40 l0_0 x9_1).f1))).trans hx117_2;replace hx117_3:=(cell_far (p:=⟨Ba,1,none⟩) (by first|exact aN hn117_1|exact hn117_1) (.int .i64 ((rd_T40 l0_0 x9_1).f1))).trans hx117_3;replace hx117_0:=(cell_far (p:=⟨Ba,2,none⟩) (by first|exact aN hn117_2|exact hn117_2) (.int .i64 ((rd_T40 l0_0 x9_1).f2))).trans hx117_0;replace hx117_1:=(cell_far (p:=⟨Ba,2,none⟩) (by first|exact aN hn117_2|exact hn117_2) (.int .i64 ((rd_T40 l0_0 x9_1).f2))).trans hx117_1;replace hx117_2:=(cell_far (p:=⟨Ba,2,none⟩) (by first|exact aN hn117_2|exact hn117_2) (.int .i64 ((rd_T40 l0_0 x9_1).f2))).trans hx117_2;replace hx117_3:=(cell_far (p:=⟨Ba,2,none⟩) (by first|exact aN hn117_2|exact hn117_2) (.int .i64 ((rd_T40 l0_0 x9_1).f2))).trans hx117_3;replace hx117_0:=(cell_far (p:=⟨Ba,3,none⟩) (by first|exact aN hn117_3|exact hn117_3) (.bool true)).trans hx117_0;replace hx117_1:=(cell_far (p:=⟨Ba,3,none⟩) (by first|exact aN hn117_3|exact hn117_3) (.bool true)).trans hx117_1;replace hx117_2:=(cell_far (p:=⟨Ba,3,none⟩) (by first|exact aN hn117_3|exact hn117_3) (.bool true)).trans hx117_2;replace hx117_3:=(cell_far (p:=⟨Ba,3,none⟩) (by first|exact aN hn117_3|exact hn117_3) (.bool true)).trans hx117_3;(try have hy117_0:=fun (n_:Nat)=>(show ((((((w20.drewN n_).setCell ⟨Ba,0,none⟩ (.int .i64 ((rd_T40 l0_0 x9_1).f0))).setCell ⟨Ba,1,none⟩ (.int .i64 ((rd_T40 l0_0 x9_1).f1))).setCell ⟨Ba,2,none⟩ (.int .i64 ((rd_T40 l0_0 x9_1).f2))).setCell ⟨Ba,3,none⟩ (.bool true))).cell? _=some _ from hx117_0));(try have hy117_1:=fun (n_:Nat)=>(show ((((((w20.drewN n_).setCell ⟨Ba,0,none⟩ (.int .i64 ((rd_T40 l0_0 x9_1).f0))).setCell ⟨Ba,1,none⟩ (.int .i64 ((rd_T40 l0_0 x9_1).f1))).setCell ⟨Ba,2,none⟩ (.int .i64 ((rd_T40 l0_0 x9_1).f2))).setCell ⟨Ba,3,none⟩ (.bool true))).cell? _=some _ from hx117_1));(try have hy117_2:=fun (n_:Nat)=>(show ((((((w20.drewN n_).setCell ⟨Ba,0,none⟩ (.int .i64 ((rd_T40 l0_0 x9_1).f0))).setCell ⟨Ba,1,none⟩ (.int .i64 ((rd_T40 l0_0 x9_1).f1))).setCell ⟨Ba,2,none⟩ (.int .i64 ((rd_T40 l0_0 x9_1).f2))).setCell ⟨Ba,3,none⟩ (.bool true))).cell? _=some _ from hx117_2));(try have hy117_3:=fun (n_:Nat)=>(show ((((((w20.drewN n_).setCell ⟨Ba,0,none⟩ (.int .i64 ((rd_T40 l0_0 x9_1).f0))).setCell ⟨Ba,1,none⟩ (.int .i64 ((rd_T40 l0_0 x9_1).f1))).setCell ⟨Ba,2,none⟩ (.int .i64 ((rd_T40 l0_0 x9_1).f2))).setCell ⟨Ba,3,none⟩ (.bool true))).cell? _=some _ from hx117_3));clear hn117_0 hn117_1 hn117_2 hn117_3;replace p117:=eq_true p117;replace q117:=eq_true q117)))
   go_roundg k1
   case measure=>have:=HK1.out;omega
   case rel=>exact ⟨(x3_1),(wrap64 (x9_1 + 1)),(by first|rfl|(simp;done)|(simp [*];done)),(by first|rfl|(simp;done)|(simp [*];done)),H',⟨by have:=HK1.out;omega⟩,⟨by (with_reducible repeat (first|refine bN ?_ _|refine bD ?_|refine bA ?_ _|refine blk_far ?_ Be.out _));exact Bc.out⟩,⟨by repeat (first|(with_reducible first|exact HB.out|apply oA|apply pN|apply o1|refine bS ?_ Bf.out|refine bS ?_ Bi.out)|exact HB.out)⟩⟩/-! ### impl_QueueNext: function 23 -/
def impl_QueueNext.f (k : Nat) (l0_0 : List (S40)) (a0_1 : Int) : Option (Int) := (impl_Queue_next.f k l0_0 a0_1).bind fun t119 => ((impl_QueueOk.f k l0_0 a0_1).bind fun t120 => (if t120 = true then (if t119 ≥ 0 then (if 0 ≤ t119 then (if t119 < (l0_0.length : Int) then (some ((rd_T40 l0_0 t119).f0)) else (none)) else (none)) else (some (-1))) else (some (-1))))
theorem impl_QueueNext.mono : ∀ a0 a1 k, LeO (impl_QueueNext.f k a0 a1) (impl_QueueNext.f (k + 1) a0 a1) := by
 intro a0 a1 k
 unfold impl_QueueNext.f
 repeat' first
  |(with_reducible exact impl_QueueOk.mono _ _ _)
  |(with_reducible exact impl_Queue_next.mono _ _ _)
  |(with_reducible exact LeO.refl _)
  |(with_reducible exact LeO.none _)
  |(with_reducible refine LeO.ite ?_ ?_)
  |(with_reducible refine LeO.bind ?_ (fun _ => ?_))
  |exact impl_QueueOk.mono _ _ _
  |exact impl_Queue_next.mono _ _ _
  |exact LeO.none _
  |refine LeO.ite ?_ ?_
  |refine LeO.bind ?_ (fun _ => ?_)
set_option maxHeartbeats 2000000 in
set_option maxRecDepth 100000 in
theorem impl_QueueNext.calls (k:Nat) (A0_0:Option Addr) (c0_0:Nat) (l0_0:List (S40)) (a0_1:Int) (r:Int) (w:World) (hr0_0:Kd.C k40 w A0_0 l0_0.length l0_0) (hc0_0:l0_0.length≤c0_0) (h:impl_QueueNext.f k l0_0 a0_1=some r) :
  Calls Try.prog 23 #[.agg #[.slice A0_0 l0_0.length c0_0,.int .i64 a0_1]] w fun e w'=>e=.returned (.int .i64 r)∧Below w.heap.size w w':=by
 have hu25:=Try.underlying25
 have HR0_0:=Am hr0_0
 have HC0_0:=Am hc0_0
 clear hr0_0 hc0_0
 have HB:=Am (Below.refl w.heap.size w)
 have H:((impl_Queue_next.f k l0_0 a0_1).bind fun t119=>((impl_QueueOk.f k l0_0 a0_1).bind fun t120=>(if t120=true then (if t119 ≥ 0 then (if 0≤t119 then (if t119<(l0_0.length:Int) then (some ((rd_T40 l0_0 t119).f0)) else (none)) else (none)) else (some (-1))) else (some (-1)))))=some r:=h
 clear h
 replace H:=oC H
 obtain ⟨t119,A20,H⟩:=H
 replace H:((impl_QueueOk.f k l0_0 a0_1).bind fun t120=>(if t120=true then (if t119 ≥ 0 then (if 0≤t119 then (if t119<(l0_0.length:Int) then (some ((rd_T40 l0_0 t119).f0)) else (none)) else (none)) else (some (-1))) else (some (-1))))=some r:=H
 have A2:=Am A20
 clear A20
 replace H:=oC H
 obtain ⟨t120,A30,H⟩:=H
 replace H:(if t120=true then (if t119 ≥ 0 then (if 0≤t119 then (if t119<(l0_0.length:Int) then (some ((rd_T40 l0_0 t119).f0)) else (none)) else (none)) else (some (-1))) else (some (-1)))=some r:=H
 have A3:=Am A30
 clear A30
 by_cases c4:t120=true
 rotate_left
 ·replace c4:=Bool.eq_false_iff.mpr c4
  subst c4
  have H1:(some (-1))=some r:=by rw [if_neg (show ¬ (false=true) by decide)] at H;exact H
  clear H
  have H:=H1
  clear H1
  obtain rfl:=Option.some.inj H
  go_enter Try.func23,Try.ntmps23
  go_wp2_with (first|((with_reducible refine gate_dst (N:=1) rfl ?_);refine box_event ?hg (N:=1) ?hd (cs:=#[.slice A0_0 l0_0.length c0_0,.int .i64 a0_1]) (t:=25) ?hr ?_;(case hd=>rfl);(case hg=>rfl);(case hr=>first|(go_simp;done)|(go_simp;rfl));intro Bb hg w19 hbox hb;have n0_:=Am (bP (by repeat (first|(with_reducible first|exact HB.out|apply oA|apply pN|apply o1)|exact HB.out)) hb);have n1_:=Am (hbox);have n2_:=Am ((by rw [hg];exact (bZ (by repeat (first|(with_reducible first|exact HB.out|apply oA|apply pN|apply o1)|exact HB.out))):w.heap.size≤Bb));have n3_:=Am ((by rw [hg];exact (bZ (by repeat (first|(with_reducible first|exact HB.out|apply oA|apply pN|apply o1)|exact HB.out))):w.heap.size≤Bb));clear HB;revert n0_ n1_ n2_ n3_;intro HB Ba Bd Bc;clear hb hbox hg;have Bu:=cz0 Ba.out;have Bv:=cz1 Ba.out;have Bw:=bF Ba.out 0;have Bx:=bF Ba.out 1)|((with_reducible refine gate_callee (f:=43) rfl ?_);refine goesL_ (some 5) rfl rfl Try.func43 (by kernel_rfl) rfl #[.agg #[.slice A0_0 l0_0.length c0_0,.int .i64 a0_1]] rfl (by (try simp only [lM,lC,lN]);first|done|rfl|(simp only [lD,lT];rfl)) ?_;(with_reducible refine (impl_Queue_next.calls k _ _ l0_0 a0_1 t119 _ ?side1 ?side2 A2.out).mono ?_);(case side1=>repeat (first|exact (cB HR0_0.out HB.out)|(with_reducible refine cA ?_ _)|(with_reducible refine cN ?_ _)|(with_reducible refine cD ?_)));(case side2=>exact HC0_0.out);rintro e w21 ⟨rfl,hb⟩;refine ⟨_,rfl,?_⟩;have n0_:=Am (bX Ba.out hb);have n1_:=Am (bP (by repeat (first|(with_reducible first|exact HB.out|apply oA|apply pN|apply o1|refine bS ?_ Bc.out)|exact HB.out)) hb);clear Ba HB;revert n0_ n1_;intro Ba HB;(try clear hb);(try clear hb2);(try clear hk);(try clear hi);have By:=cz0 Ba.out;have Bz:=cz1 Ba.out;have BA:=bF Ba.out 0;have BB:=bF Ba.out 1)|((with_reducible refine gate_callee (f:=16) rfl ?_);refine goesL_ (some 7) rfl rfl Try.func16 (by kernel_rfl) rfl #[.agg #[.slice A0_0 l0_0.length c0_0,.int .i64 a0_1]] rfl (by (try simp only [lM,lC,lN]);first|done|rfl|(simp only [lD,lT];rfl)) ?_;(with_reducible refine (impl_QueueOk.calls k _ _ l0_0 a0_1 false _ ?side1 ?side2 A3.out).mono ?_);(case side1=>repeat (first|exact (cB HR0_0.out HB.out)|(with_reducible refine cA ?_ _)|(with_reducible refine cN ?_ _)|(with_reducible refine cD ?_)));(case side2=>exact HC0_0.out);rintro e w23 ⟨rfl,hb⟩;refine ⟨_,rfl,?_⟩;have n0_:=Am (bX Ba.out hb);have n1_:=Am (bP (by repeat (first|(with_reducible first|exact HB.out|apply oA|apply pN|apply o1|refine bS ?_ Bc.out)|exact HB.out)) hb);clear Ba HB;revert n0_ n1_;intro Ba HB;(try clear hb);(try clear hb2);(try clear hk);(try clear hi)))
  go_ret
  exact ⟨by first|rfl|(simp [errW_none,errW_some] <;> rfl)|(simp [*,errW_none,errW_some] <;> rfl),by repeat (first|(with_reducible first|exact HB.out|apply oA|apply pN|apply o1|refine bS ?_ Bc.out)|exact HB.out)⟩

 subst c4
 have H1:(if t119 ≥ 0 then (if 0≤t119 then (if t119<(l0_0.length:Int) then (some ((rd_T40 l0_0 t119).f0)) else (none)) else (none)) else (some (-1)))=some r:=by rw [if_pos rfl] at H;exact H
 clear H
 have H:=H1
 clear H1
 by_cases c5:t119 ≥ 0
 rotate_left
 ·rw [if_neg c5] at H
  have c5b0:decide (0≤t119)=false:=decide_eq_false c5
  clear c5
  obtain rfl:=Option.some.inj H
  go_enter Try.func23,Try.ntmps23
  go_wp2_with (first|((with_reducible refine gate_dst (N:=1) rfl ?_);refine box_event ?hg (N:=1) ?hd (cs:=#[.slice A0_0 l0_0.length c0_0,.int .i64 a0_1]) (t:=25) ?hr ?_;(case hd=>rfl);(case hg=>rfl);(case hr=>first|(go_simp;done)|(go_simp;rfl));intro Bb hg w14 hbox hb;have n0_:=Am (bP (by repeat (first|(with_reducible first|exact HB.out|apply oA|apply pN|apply o1)|exact HB.out)) hb);have n1_:=Am (hbox);have n2_:=Am ((by rw [hg];exact (bZ (by repeat (first|(with_reducible first|exact HB.out|apply oA|apply pN|apply o1)|exact HB.out))):w.heap.size≤Bb));have n3_:=Am ((by rw [hg];exact (bZ (by repeat (first|(with_reducible first|exact HB.out|apply oA|apply pN|apply o1)|exact HB.out))):w.heap.size≤Bb));clear HB;revert n0_ n1_ n2_ n3_;intro HB Ba Bd Bc;clear hb hbox hg;have Bm:=cz0 Ba.out;have Bn:=cz1 Ba.out;have Bo:=bF Ba.out 0;have Bp:=bF Ba.out 1)|((with_reducible refine gate_callee (f:=43) rfl ?_);refine goesL_ (some 5) rfl rfl Try.func43 (by kernel_rfl) rfl #[.agg #[.slice A0_0 l0_0.length c0_0,.int .i64 a0_1]] rfl (by (try simp only [lM,lC,lN]);first|done|rfl|(simp only [lD,lT];rfl)) ?_;(with_reducible refine (impl_Queue_next.calls k _ _ l0_0 a0_1 t119 _ ?side1 ?side2 A2.out).mono ?_);(case side1=>repeat (first|exact (cB HR0_0.out HB.out)|(with_reducible refine cA ?_ _)|(with_reducible refine cN ?_ _)|(with_reducible refine cD ?_)));(case side2=>exact HC0_0.out);rintro e w16 ⟨rfl,hb⟩;refine ⟨_,rfl,?_⟩;have n0_:=Am (bX Ba.out hb);have n1_:=Am (bP (by repeat (first|(with_reducible first|exact HB.out|apply oA|apply pN|apply o1|refine bS ?_ Bc.out)|exact HB.out)) hb);clear Ba HB;revert n0_ n1_;intro Ba HB;(try clear hb);(try clear hb2);(try clear hk);(try clear hi);have Bq:=cz0 Ba.out;have Br:=cz1 Ba.out;have Bs:=bF Ba.out 0;have Bt:=bF Ba.out 1)|((with_reducible refine gate_callee (f:=16) rfl ?_);refine goesL_ (some 7) rfl rfl Try.func16 (by kernel_rfl) rfl #[.agg #[.slice A0_0 l0_0.length c0_0,.int .i64 a0_1]] rfl (by (try simp only [lM,lC,lN]);first|done|rfl|(simp only [lD,lT];rfl)) ?_;(with_reducible refine (impl_QueueOk.calls k _ _ l0_0 a0_1 true _ ?side1 ?side2 A3.out).mono ?_);(case side1=>repeat (first|exact (cB HR0_0.out HB.out)|(with_reducible refine cA ?_ _)|(with_reducible refine cN ?_ _)|(with_reducible refine cD ?_)));(case side2=>exact HC0_0.out);rintro e w18 ⟨rfl,hb⟩;refine ⟨_,rfl,?_⟩;have n0_:=Am (bX Ba.out hb);have n1_:=Am (bP (by repeat (first|(with_reducible first|exact HB.out|apply oA|apply pN|apply o1|refine bS ?_ Bc.out)|exact HB.out)) hb);clear Ba HB;revert n0_ n1_;intro Ba HB;(try clear hb);(try clear hb2);(try clear hk);(try clear hi)))
  go_ret
  exact ⟨by first|rfl|(simp [errW_none,errW_some] <;> rfl)|(simp [*,errW_none,errW_some] <;> rfl),by repeat (first|(with_reducible first|exact HB.out|apply oA|apply pN|apply o1|refine bS ?_ Bc.out)|exact HB.out)⟩
 rw [if_pos c5] at H
 have c5b0:decide (0≤t119)=true:=decide_eq_true c5
 clear c5
 by_cases c6:0≤t119
 rotate_left
 ·rw [if_neg c6] at H
  exact absurd H (by simp)
 rw [if_pos c6] at H
 have c6b0:decide (0≤t119)=true:=decide_eq_true c6
 clear c6
 by_cases c7:t119<(l0_0.length:Int)
 rotate_left
 ·rw [if_neg c7] at H
  exact absurd H (by simp)
 rw [if_pos c7] at H
 have c7b0:decide (t119<(l0_0.length:Int))=true:=decide_eq_true c7
 clear c7
 obtain rfl:=Option.some.inj H
 go_enter Try.func23,Try.ntmps23
 go_wp2_with (first|((with_reducible refine gate_dst (N:=1) rfl ?_);refine box_event ?hg (N:=1) ?hd (cs:=#[.slice A0_0 l0_0.length c0_0,.int .i64 a0_1]) (t:=25) ?hr ?_;(case hd=>rfl);(case hg=>rfl);(case hr=>first|(go_simp;done)|(go_simp;rfl));intro Bb hg w8 hbox hb;have n0_:=Am (bP (by repeat (first|(with_reducible first|exact HB.out|apply oA|apply pN|apply o1)|exact HB.out)) hb);have n1_:=Am (hbox);have n2_:=Am ((by rw [hg];exact (bZ (by repeat (first|(with_reducible first|exact HB.out|apply oA|apply pN|apply o1)|exact HB.out))):w.heap.size≤Bb));have n3_:=Am ((by rw [hg];exact (bZ (by repeat (first|(with_reducible first|exact HB.out|apply oA|apply pN|apply o1)|exact HB.out))):w.heap.size≤Bb));clear HB;revert n0_ n1_ n2_ n3_;intro HB Ba Bd Bc;clear hb hbox hg;have BC:=cz0 Ba.out;have BD:=cz1 Ba.out;have BE:=bF Ba.out 0;have BF:=bF Ba.out 1)|((with_reducible refine gate_callee (f:=43) rfl ?_);refine goesL_ (some 5) rfl rfl Try.func43 (by kernel_rfl) rfl #[.agg #[.slice A0_0 l0_0.length c0_0,.int .i64 a0_1]] rfl (by (try simp only [lM,lC,lN]);first|done|rfl|(simp only [lD,lT];rfl)) ?_;(with_reducible refine (impl_Queue_next.calls k _ _ l0_0 a0_1 t119 _ ?side1 ?side2 A2.out).mono ?_);(case side1=>repeat (first|exact (cB HR0_0.out HB.out)|(with_reducible refine cA ?_ _)|(with_reducible refine cN ?_ _)|(with_reducible refine cD ?_)));(case side2=>exact HC0_0.out);rintro e w10 ⟨rfl,hb⟩;refine ⟨_,rfl,?_⟩;have n0_:=Am (bX Ba.out hb);have n1_:=Am (bP (by repeat (first|(with_reducible first|exact HB.out|apply oA|apply pN|apply o1|refine bS ?_ Bc.out)|exact HB.out)) hb);clear Ba HB;revert n0_ n1_;intro Ba HB;(try clear hb);(try clear hb2);(try clear hk);(try clear hi);have Be:=cz0 Ba.out;have Bf:=cz1 Ba.out;have Bg:=bF Ba.out 0;have Bh:=bF Ba.out 1)|((with_reducible refine gate_callee (f:=16) rfl ?_);refine goesL_ (some 7) rfl rfl Try.func16 (by kernel_rfl) rfl #[.agg #[.slice A0_0 l0_0.length c0_0,.int .i64 a0_1]] rfl (by (try simp only [lM,lC,lN]);first|done|rfl|(simp only [lD,lT];rfl)) ?_;(with_reducible refine (impl_QueueOk.calls k _ _ l0_0 a0_1 true _ ?side1 ?side2 A3.out).mono ?_);(case side1=>repeat (first|exact (cB HR0_0.out HB.out)|(with_reducible refine cA ?_ _)|(with_reducible refine cN ?_ _)|(with_reducible refine cD ?_)));(case side2=>exact HC0_0.out);rintro e w12 ⟨rfl,hb⟩;refine ⟨_,rfl,?_⟩;have n0_:=Am (bX Ba.out hb);have n1_:=Am (bP (by repeat (first|(with_reducible first|exact HB.out|apply oA|apply pN|apply o1|refine bS ?_ Bc.out)|exact HB.out)) hb);clear Ba HB;revert n0_ n1_;intro Ba HB;(try clear hb);(try clear hb2);(try clear hk);(try clear hi);have Bi:=cz0 Ba.out;have Bj:=cz1 Ba.out;have Bk:=bF Ba.out 0;have Bl:=bF Ba.out 1;have p121:0≤(t119:Int):=of_decide_eq_true (by first|(with_reducible assumption)|assumption);have q121:t119<(l0_0.length:Int):=of_decide_eq_true (by first|(with_reducible assumption)|assumption);obtain ⟨ad121,e121,hx121_0,hx121_1,hx121_2,hx121_3⟩:=at_T40 HR0_0.out t119 p121 q121;cases e121;replace hx121_0:=(HB.out.cell (World.block_lt_of_cell? w _ hx121_0)).trans hx121_0;replace hx121_1:=(HB.out.cell (World.block_lt_of_cell? w _ hx121_1)).trans hx121_1;replace hx121_2:=(HB.out.cell (World.block_lt_of_cell? w _ hx121_2)).trans hx121_2;replace hx121_3:=(HB.out.cell (World.block_lt_of_cell? w _ hx121_3)).trans hx121_3;replace p121:=eq_true p121;replace q121:=eq_true q121))
 go_ret
 exact ⟨by first|rfl|(simp [errW_none,errW_some] <;> rfl)|(simp [*,errW_none,errW_some] <;> rfl),by repeat (first|(with_reducible first|exact HB.out|apply oA|apply pN|apply o1|refine bS ?_ Bc.out)|exact HB.out)⟩
/-- A state of type 58 at block g of W;what its slices lead to came in by w0. -/
def IsS58 (w0 W:World) (g:Nat) (f0:List Int) (f1:Int):Prop:=∃ A0 c0,W.heap[g]?=some (.cells #[.slice A0 f0.length c0,.int .i64 f1] 58 (0,0))∧w0.heap.size≤g∧Kd.C (Kd.int .u8) w0 A0 f0.length f0
theorem IsS58.grown {w0 W:World} {g:Nat} {f0:List Int} {f1:Int} {W1:World} {row:Option Nat} (h:IsS58 w0 W g f0 f1) (hw:W.grownBy W1 row) (hne:some g≠row):IsS58 w0 W1 g f0 f1:=by
 obtain ⟨A0,c0,hb,hg,hr0⟩:=h
 exact ⟨A0,c0,blk_grown hb hw hne,hg,hr0⟩
theorem IsS58.own_neN {w0 W:World} {g:Nat} {f0:List Int} {f1:Int} {α:Type} {d:Kd α} {e:Nat} {base:Nat} {ok:Nat → Prop} {v:Value} {xs:List α} (h:IsS58 w0 W g f0 f1) (ho:Kd.N d e W base ok v xs) (ht:e≠58):some g≠v.ownBlock:=by
 obtain ⟨A0,c0,hb,hg,hr0⟩:=h
 exact Kd.N_ne ho hb ht
theorem IsS58.fresh {w0 W:World} {g:Nat} {f0:List Int} {f1:Int} (h:IsS58 w0 W g f0 f1):∀ k,W.heap.size≤k → k≠g:=by
 obtain ⟨A0,c0,hb,hg,hr0⟩:=h
 exact Kd.freshB hb
theorem IsS58.kept {w0 W:World} {g:Nat} {f0:List Int} {f1:Int} {W1:World} {S:Nat → Prop} (h:IsS58 w0 W g f0 f1) (hk:Kept W W1 S) (hne:¬ S g):IsS58 w0 W1 g f0 f1:=by
 obtain ⟨A0,c0,hb,hg,hr0⟩:=h
 exact ⟨A0,c0,blk_kept hb hk hne,hg,hr0⟩
theorem IsS58.below {w0 W:World} {g:Nat} {f0:List Int} {f1:Int} {W1:World} (h:IsS58 w0 W g f0 f1) (hw:Below W.heap.size W W1):IsS58 w0 W1 g f0 f1:=h.grown (grown_of_below hw none) (by simp)
theorem IsS58.alloc {w0 W:World} {g:Nat} {f0:List Int} {f1:Int} (h:IsS58 w0 W g f0 f1) (o:Obj):IsS58 w0 (W.alloc o) g f0 f1:=h.below (oA (Below.refl _ _) o)
theorem IsS58.drewN {w0 W:World} {g:Nat} {f0:List Int} {f1:Int} (h:IsS58 w0 W g f0 f1) (m:Nat):IsS58 w0 (W.drewN m) g f0 f1:=h
theorem IsS58.drew {w0 W:World} {g:Nat} {f0:List Int} {f1:Int} (h:IsS58 w0 W g f0 f1):IsS58 w0 W.drew g f0 f1:=h
theorem IsS58.at_ {w0 W:World} {g:Nat} {f0:List Int} {f1:Int} {w':World} {m:Nat} (hq:W.drewN m=w') (h:IsS58 w0 W g f0 f1):IsS58 w0 w' g f0 f1:=by subst hq;exact IsS58.drewN h m
theorem IsS58.apart {w0 W:World} {g:Nat} {f0:List Int} {f1:Int} {α:Type} {d:Kd α} {e:Nat} {base:Nat} {ok:Nat → Prop} {v:Value} {xs:List α} (h:IsS58 w0 W g f0 f1) (ho:d.R e W base ok v xs) (ht:∀ q,q ∈ e :: d.E → q≠58):d.R e W base (fun k=>ok k∧k≠g) v xs:=by
 obtain ⟨A0,c0,hb,hg,hr0⟩:=h
 exact rT ho hb ht
theorem IsS58.own_ne {w0 W:World} {g:Nat} {f0:List Int} {f1:Int} {α:Type} {d:Kd α} {e:Nat} {base:Nat} {ok:Nat → Prop} {v:Value} {xs:List α} (h:IsS58 w0 W g f0 f1) (ho:d.R e W base ok v xs) (ht:e≠58):some g≠v.ownBlock:=by
 obtain ⟨A0,c0,hb,hg,hr0⟩:=h
 exact Kd.R_ne ho hb ht
theorem IsS58.apartQ {w0 W:World} {g:Nat} {f0:List Int} {f1:Int} {α:Type} {d:Kd α} {e:Nat} {base:Nat} {ok:Nat → Prop} {v:Value} {xs:List α} (h:IsS58 w0 W g f0 f1) (ho:d.Q e W base ok v xs) (ht:∀ q,q ∈ e :: d.E → q≠58):d.Q e W base (fun k=>ok k∧k≠g) v xs:=by
 obtain ⟨A0,c0,hb,hg,hr0⟩:=h
 exact Kd.Q_types ho hb ht
theorem IsS58.own_neQ {w0 W:World} {g:Nat} {f0:List Int} {f1:Int} {α:Type} {d:Kd α} {e:Nat} {base:Nat} {ok:Nat → Prop} {v:Value} {xs:List α} (h:IsS58 w0 W g f0 f1) (ho:d.Q e W base ok v xs) (ht:e≠58):some g≠v.ownBlock:=by
 obtain ⟨A0,c0,hb,hg,hr0⟩:=h
 exact Kd.Q_ne ho hb ht
theorem IsS58.apartS {w0 W:World} {g:Nat} {f0:List Int} {f1:Int} {α:Type} {d:Kd α} {e:Nat} {base:Nat} {ok:Nat → Prop} {v:Value} {xs:List α} (h:IsS58 w0 W g f0 f1) (ho:d.S e W base ok v xs) (ht:∀ q,q ∈ e :: d.E → q≠58):d.S e W base (fun k=>ok k∧k≠g) v xs:=by
 obtain ⟨A0,c0,hb,hg,hr0⟩:=h
 exact Kd.S_types ho hb ht
theorem IsS58.own_neS {w0 W:World} {g:Nat} {f0:List Int} {f1:Int} {α:Type} {d:Kd α} {e:Nat} {base:Nat} {ok:Nat → Prop} {v:Value} {xs:List α} (h:IsS58 w0 W g f0 f1) (ho:d.S e W base ok v xs) (ht:e≠58):some g≠v.ownBlock:=by
 obtain ⟨A0,c0,hb,hg,hr0⟩:=h
 exact Kd.S_ne ho hb ht
theorem IsS58.lt {w0 W:World} {g:Nat} {f0:List Int} {f1:Int} (h:IsS58 w0 W g f0 f1):g<W.heap.size:=by
 obtain ⟨A0,c0,hb,hg,hr0⟩:=h
 exact blk_lt hb
theorem IsS58.ge {w0 W:World} {g:Nat} {f0:List Int} {f1:Int} (h:IsS58 w0 W g f0 f1):w0.heap.size≤g:=by
 obtain ⟨A0,c0,hb,hg,hr0⟩:=h
 exact hg
theorem IsS58.ne_blk {w0 W:World} {g:Nat} {f0:List Int} {f1:Int} {a:Nat} {cs:Array Value} {t:TypeId} {fr:Nat × Nat} (h:IsS58 w0 W g f0 f1) (hb2:W.heap[a]?=some (.cells cs t fr)) (ht:t≠58):g≠a:=by
 obtain ⟨A0,c0,hb,hg,hr0⟩:=h
 rintro rfl
 rw [hb] at hb2
 injection hb2 with hb2
 injection hb2 with _ ht2
 exact ht ht2.symm
theorem IsS58.far {w0 W:World} {g:Nat} {f0:List Int} {f1:Int} {p:Addr} (h:IsS58 w0 W g f0 f1) (hne:g≠p.block) (u:Value):IsS58 w0 (W.setCell p u) g f0 f1:=by
 obtain ⟨A0,c0,hb,hg,hr0⟩:=h
 exact ⟨A0,c0,blk_far hb hne u,hg,hr0⟩
theorem cellS58_0 {W:World} {g:Nat} {A0:Option Addr} {c0:Nat} {f0:List Int} {f1:Int} (h:W.heap[g]?=some (.cells #[.slice A0 f0.length c0,.int .i64 f1] 58 (0,0))):W.cell? ⟨g,0,none⟩=some (.slice A0 f0.length c0):=(bC h 0).trans rfl
theorem cellS58_1 {W:World} {g:Nat} {A0:Option Addr} {c0:Nat} {f0:List Int} {f1:Int} (h:W.heap[g]?=some (.cells #[.slice A0 f0.length c0,.int .i64 f1] 58 (0,0))):W.cell? ⟨g,1,none⟩=some (.int .i64 f1):=(bC h 1).trans rfl
theorem IsS58.set_1 {w0 W:World} {g:Nat} {f0:List Int} {f1:Int} (h:IsS58 w0 W g f0 f1) (x:Int):IsS58 w0 (W.setCell ⟨g,1,none⟩ (.int .i64 x)) g f0 x:=by
 obtain ⟨A0,c0,hb,hg,hr0⟩:=h
 exact ⟨A0,c0,by simpa using blk_set hb 1 (.int .i64 x),hg,hr0⟩
theorem IsS58.new (w0 W:World) (A0:Option Addr) (c0:Nat) (f0:List Int) (f1:Int) (hB:Below w0.heap.size w0 W) (hr0:Kd.C (Kd.int .u8) w0 A0 f0.length f0):IsS58 w0 (W.alloc (.cells #[.slice A0 f0.length c0,.int .i64 f1] 58)) W.heap.size f0 f1:=⟨A0,c0,by simpa using heap_alloc_new W _,hB.size,hr0⟩

/-! ### spec_l6Open: function 33 -/
def spec_l6Open.f (l0 : List Int) : Option (List Int × Int) := if (l0.length : Int) > 2000 then (if 2000 ≤ (l0.length : Int) then (some (l0.take 2000, 0)) else (none)) else (some (l0, 0))
set_option maxHeartbeats 2000000 in
set_option maxRecDepth 100000 in
theorem spec_l6Open.calls (A0:Option Addr) (c0:Nat) (l0:List Int) (r1:List Int) (r2:Int) (w0 w:World) (hB:Below w0.heap.size w0 w) (hr0:Kd.C (Kd.int .u8) w0 A0 l0.length l0) (hc0:l0.length≤c0) (h:spec_l6Open.f l0=some (r1,r2)) :
  Calls Try.prog 33 #[.slice A0 l0.length c0] w fun e w'=>∃ g_:Nat,e=.returned (.pointer (some ⟨g_,0,none⟩))∧IsS58 w0 w' g_ r1 r2∧Below w0.heap.size w0 w'∧Below w.heap.size w w':=by
 have hu58:=Try.underlying58
 have HR0:=Am hr0
 have HC0:=Am hc0
 clear hr0 hc0
 have HBW:=Am (Below.refl w.heap.size w)
 have HW0:=Am hB.size
 have HB:=Am hB
 clear hB
 have H:(if (l0.length:Int) > 2000 then (if 2000≤(l0.length:Int) then (some (l0.take 2000,0)) else (none)) else (some (l0,0)))=some (r1,r2):=h
 clear h
 by_cases c2:(l0.length:Int) > 2000
 rotate_left
 ·rw [if_neg c2] at H
  have c2b0:decide (2000<(l0.length:Int))=false:=decide_eq_false c2
  have c2b1:decide (2000<l0.length)=false:=decide_eq_false (by omega)
  clear c2
  simp only [Option.some.injEq,Prod.mk.injEq] at H
  obtain ⟨rfl,rfl⟩:=H
  go_enter Try.func33,Try.ntmps33
  go_wp2_with (first|((with_reducible refine gate_dst (N:=10) rfl ?_);refine box_event ?hg (N:=10) ?hd (cs:=#[.slice A0 l0.length c0,.int .i64 0]) (t:=58) ?hr ?_;(case hd=>rfl);(case hg=>rfl);(case hr=>first|(go_simp;done)|(go_simp;rfl));intro Bb hg w6 hbox hb;have n0_:=Am (bP HBW.out hb);have n1_:=Am (bP (by repeat (first|(with_reducible first|exact HB.out|apply oA|apply pN|apply o1)|exact HB.out)) hb);have n2_:=Am (hbox);have n3_:=Am ((by rw [hg];exact (bZ (by repeat (first|(with_reducible first|exact HBW.out|apply oA|apply pN|apply o1)|exact HBW.out))):w.heap.size≤Bb));have n4_:=Am ((Nat.le_trans HW0.out (by rw [hg];exact (bZ (by repeat (first|(with_reducible first|exact HBW.out|apply oA|apply pN|apply o1)|exact HBW.out))):w.heap.size≤Bb):w0.heap.size≤Bb));clear HBW HB;revert n0_ n1_ n2_ n3_ n4_;intro HBW HB Bg Bh Bd;clear hb hbox hg))
  go_ret
  exact ⟨_,rfl,(show IsS58 w0 _ Bb l0 0 from ⟨_,_,by (with_reducible repeat (first|refine bN ?_ _|refine bD ?_|refine bA ?_ _));exact Bg.out,Bd.out,HR0.out⟩),by repeat (first|(with_reducible first|exact HB.out|apply oA|apply pN|apply o1|refine bS ?_ Bd.out)|exact HB.out),by repeat (first|(with_reducible first|exact HBW.out|apply oA|apply pN|apply o1|refine bS ?_ Bh.out)|exact HBW.out)⟩

 rw [if_pos c2] at H
 have c2b0:decide (2000<(l0.length:Int))=true:=decide_eq_true c2
 have c2b1:decide (2000<l0.length)=true:=decide_eq_true (by omega)
 clear c2
 by_cases c3:2000≤(l0.length:Int)
 rotate_left
 ·rw [if_neg c3] at H
  exact absurd H (by simp)
 rw [if_pos c3] at H
 have c3b0:=eq_true c3
 have c3b1:decide (2000≤(l0.length:Int))=true:=decide_eq_true c3
 clear c3
 simp only [Option.some.injEq,Prod.mk.injEq] at H
 obtain ⟨rfl,rfl⟩:=H
 obtain ⟨i04,hi04,_,hsz4,_⟩:=info_parts info5
 obtain ⟨hcut4,hA4,hC4⟩:=print_take_of (P:=Try.prog) (Value.int .u8) 0 22 5 .i64 Try.underlying22 hi04 hsz4 A0 c0 l0 2000 (by omega) (of_decide_eq_true (by first|(with_reducible assumption)|assumption)) HC0.out
 have HR122:=Am (Kd.C_of_reads (h1:=fun _=>rfl) (hA4 _ (Kd.reads_of_C HR0.out)))
 have HC122:=Am hC4
 clear hA4 hC4 hi04 hsz4
 go_enter Try.func33,Try.ntmps33
 go_wp2_with (first|((with_reducible refine gate_dst (N:=10) rfl ?_);refine box_event ?hg (N:=10) ?hd (cs:=#[.slice A0 (l0.take 2000).length c0,.int .i64 0]) (t:=58) ?hr ?_;(case hd=>rfl);(case hg=>rfl);(case hr=>first|(go_simp;done)|(go_simp;rfl));intro Ba hg w5 hbox hb;have n0_:=Am (bP HBW.out hb);have n1_:=Am (bP (by repeat (first|(with_reducible first|exact HB.out|apply oA|apply pN|apply o1)|exact HB.out)) hb);have n2_:=Am (hbox);have n3_:=Am ((by rw [hg];exact (bZ (by repeat (first|(with_reducible first|exact HBW.out|apply oA|apply pN|apply o1)|exact HBW.out))):w.heap.size≤Ba));have n4_:=Am ((Nat.le_trans HW0.out (by rw [hg];exact (bZ (by repeat (first|(with_reducible first|exact HBW.out|apply oA|apply pN|apply o1)|exact HBW.out))):w.heap.size≤Ba):w0.heap.size≤Ba));clear HBW HB;revert n0_ n1_ n2_ n3_ n4_;intro HBW HB Be Bf Bc;clear hb hbox hg))
 go_ret
 exact ⟨_,rfl,(show IsS58 w0 _ Ba (l0.take 2000) 0 from ⟨_,_,by (with_reducible repeat (first|refine bN ?_ _|refine bD ?_|refine bA ?_ _));exact Be.out,Bc.out,HR122.out⟩),by repeat (first|(with_reducible first|exact HB.out|apply oA|apply pN|apply o1|refine bS ?_ Bc.out)|exact HB.out),by repeat (first|(with_reducible first|exact HBW.out|apply oA|apply pN|apply o1|refine bS ?_ Bf.out)|exact HBW.out)⟩
end Go.Proofs.Ytfhcgmfodfcpeaa.PFnQueueLess
