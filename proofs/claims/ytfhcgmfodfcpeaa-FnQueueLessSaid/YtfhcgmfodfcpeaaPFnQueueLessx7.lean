/- Proved here, without a condition beyond those that each theorem states: what the Go functions named below do is what the plain functions of the same names say. Written by xprint.py, a program of this session. -/
import Derived.Test.YtfhcgmfodfcpeaaPFnQueueLessx0
namespace Go.Proofs.Ytfhcgmfodfcpeaa.PFnQueueLess
open Go.RowKit Go.Proofs.YtfhcgmfodfcpeaaW.PrintWords Go.Proofs.YtfhcgmfodfcpeaaW.PrintLast Go.Proofs.YtfhcgmfodfcpeaaW.PrintMore
attribute [local go_sem] max2_int min2_int max_two min_two max_three min_three max_four min_four   -- for this text's walks alone
set_option linter.unusedVariables false
set_option linter.unusedSimpArgs false

attribute [local go_sem ↓] isSome_setCell_
/-! ### spec_l11Next: function 51 -/
def spec_l11Next.l0 : Nat → Int → Int → List (S40) → Int → Option (Int)
|0, _, _, _, _ => none
|k + 1, x3, x4, x137000, x137001 => if x4 < (x137000.length : Int) then (if 0 ≤ x4 then (if (rd_T40 x137000 x4).f3 = true then (if x3 < 0 then (spec_l11Next.l0 k x4 (wrap64 (x4 + 1)) x137000 x137001) else (if 0 ≤ x3 then (if x3 < (x137000.length : Int) then (if ((rd_T40 x137000 x4).f2) < ((rd_T40 x137000 x3).f2) then (spec_l11Next.l0 k x4 (wrap64 (x4 + 1)) x137000 x137001) else (spec_l11Next.l0 k x3 (wrap64 (x4 + 1)) x137000 x137001)) else (none)) else (none))) else (spec_l11Next.l0 k x3 (wrap64 (x4 + 1)) x137000 x137001)) else (none)) else (some x3)
def spec_l11Next.f (k : Nat) (l0_0 : List (S40)) (a0_1 : Int) : Option (Int) := spec_l11Next.l0 k (-1) 0 l0_0 a0_1
theorem spec_l11Next.mono_l : ∀ k, (∀ y0 y1 y2 y3, LeO (spec_l11Next.l0 k y0 y1 y2 y3) (spec_l11Next.l0 (k + 1) y0 y1 y2 y3))
|0 => fun _ _ _ _ r h => by simp [spec_l11Next.l0] at h
|k + 1 => by
  have ih0 := spec_l11Next.mono_l k
  ·intro y0 y1 y2 y3
   unfold spec_l11Next.l0
   repeat' first
  |(with_reducible exact ih0 _ _ _ _)
  |(with_reducible exact LeO.refl _)
  |(with_reducible exact LeO.none _)
  |(with_reducible refine LeO.ite ?_ ?_)
  |(with_reducible refine LeO.bind ?_ (fun _ => ?_))
  |exact ih0 _ _ _ _
  |exact LeO.none _
  |refine LeO.ite ?_ ?_
  |refine LeO.bind ?_ (fun _ => ?_)
theorem spec_l11Next.mono : ∀ a0 a1 k, LeO (spec_l11Next.f k a0 a1) (spec_l11Next.f (k + 1) a0 a1) := by
 intro a0 a1 k
 have ih0 := spec_l11Next.mono_l k
 unfold spec_l11Next.f
 repeat' first
  |(with_reducible exact ih0 _ _ _ _)
  |(with_reducible exact LeO.refl _)
  |(with_reducible exact LeO.none _)
  |(with_reducible refine LeO.ite ?_ ?_)
  |(with_reducible refine LeO.bind ?_ (fun _ => ?_))
  |exact ih0 _ _ _ _
  |exact LeO.none _
  |refine LeO.ite ?_ ?_
  |refine LeO.bind ?_ (fun _ => ?_)
set_option maxHeartbeats 2000000 in
set_option maxRecDepth 100000 in
theorem spec_l11Next.calls (k:Nat) (A0_0:Option Addr) (c0_0:Nat) (l0_0:List (S40)) (a0_1:Int) (r:Int) (w:World) (hr0_0:Kd.C k40 w A0_0 l0_0.length l0_0) (hc0_0:l0_0.length≤c0_0) (h:spec_l11Next.f k l0_0 a0_1=some r) :
  Calls Try.prog 51 #[.agg #[.slice A0_0 l0_0.length c0_0,.int .i64 a0_1]] w fun e w'=>e=.returned (.int .i64 r)∧Below w.heap.size w w':=by
 have hu25:=Try.underlying25
 have HR0_0:=Am hr0_0
 have HC0_0:=Am hc0_0
 clear hr0_0 hc0_0
 have HB:=Am (Below.refl w.heap.size w)
 have H:(spec_l11Next.l0 k (-1) 0 l0_0 a0_1)=some r:=h
 clear h
 have H':=Am H
 clear H
 go_enter Try.func51,Try.ntmps51
 go_wp2_with (first|((with_reducible refine gate_dst (N:=1) rfl ?_);refine box_event ?hg (N:=1) ?hd (cs:=#[.slice A0_0 l0_0.length c0_0,.int .i64 a0_1]) (t:=25) ?hr ?_;(case hd=>rfl);(case hg=>rfl);(case hr=>first|(go_simp;done)|(go_simp;rfl));intro Bb hg w2 hbox hb;have n0_:=Am (bP (by repeat (first|(with_reducible first|exact HB.out|apply oA|apply pN|apply o1)|exact HB.out)) hb);have n1_:=Am (hbox);have n2_:=Am ((by rw [hg];exact (bZ (by repeat (first|(with_reducible first|exact HB.out|apply oA|apply pN|apply o1)|exact HB.out))):w.heap.size≤Bb));have n3_:=Am ((by rw [hg];exact (bZ (by repeat (first|(with_reducible first|exact HB.out|apply oA|apply pN|apply o1)|exact HB.out))):w.heap.size≤Bb));clear HB;revert n0_ n1_ n2_ n3_;intro HB Ba Bd Bc;clear hb hbox hg))
 repeat (go_quiet (first|((with_reducible refine gate_dst (N:=1) rfl ?_);refine box_event ?hg (N:=1) ?hd (cs:=#[.slice A0_0 l0_0.length c0_0,.int .i64 a0_1]) (t:=25) ?hr ?_;(case hd=>rfl);(case hg=>rfl);(case hr=>first|(go_simp;done)|(go_simp;rfl));intro Bb hg w2 hbox hb;have n0_:=Am (bP (by repeat (first|(with_reducible first|exact HB.out|apply oA|apply pN|apply o1)|exact HB.out)) hb);have n1_:=Am (hbox);have n2_:=Am ((by rw [hg];exact (bZ (by repeat (first|(with_reducible first|exact HB.out|apply oA|apply pN|apply o1)|exact HB.out))):w.heap.size≤Bb));have n3_:=Am ((by rw [hg];exact (bZ (by repeat (first|(with_reducible first|exact HB.out|apply oA|apply pN|apply o1)|exact HB.out))):w.heap.size≤Bb));clear HB;revert n0_ n1_ n2_ n3_;intro HB Ba Bd Bc;clear hb hbox hg));try go_wp2_with (first|((with_reducible refine gate_dst (N:=1) rfl ?_);refine box_event ?hg (N:=1) ?hd (cs:=#[.slice A0_0 l0_0.length c0_0,.int .i64 a0_1]) (t:=25) ?hr ?_;(case hd=>rfl);(case hg=>rfl);(case hr=>first|(go_simp;done)|(go_simp;rfl));intro Bb hg w2 hbox hb;have n0_:=Am (bP (by repeat (first|(with_reducible first|exact HB.out|apply oA|apply pN|apply o1)|exact HB.out)) hb);have n1_:=Am (hbox);have n2_:=Am ((by rw [hg];exact (bZ (by repeat (first|(with_reducible first|exact HB.out|apply oA|apply pN|apply o1)|exact HB.out))):w.heap.size≤Bb));have n3_:=Am ((by rw [hg];exact (bZ (by repeat (first|(with_reducible first|exact HB.out|apply oA|apply pN|apply o1)|exact HB.out))):w.heap.size≤Bb));clear HB;revert n0_ n1_ n2_ n3_;intro HB Ba Bd Bc;clear hb hbox hg)))
 go_loopg [3,4] k (fun kq v3 v4 w'=>∃ (x3_1:Int) (x4_1:Int),v3=.int .i64 x3_1∧v4=.int .i64 x4_1∧Aside0 (spec_l11Next.l0 kq x3_1 x4_1 l0_0 a0_1=some r)∧Aside0 (kq≤k)∧Aside0 (w'.heap[Bb]?=some (.cells #[(.slice A0_0 l0_0.length c0_0),.int .i64 a0_1] 25 (0,0)))∧Aside0 (Below w.heap.size w w'))
 case atStart=>exact ⟨((-1)),(0),(by first|rfl|(simp;done)|(simp [*];done)),(by first|rfl|(simp;done)|(simp [*];done)),H',⟨Nat.le_refl _⟩,⟨by (with_reducible repeat (first|refine bN ?_ _|refine bD ?_|refine bA ?_ _));exact Ba.out⟩,⟨by repeat (first|(with_reducible first|exact HB.out|apply oA|apply pN|apply o1|refine bS ?_ Bc.out)|exact HB.out)⟩⟩
 case round =>
  clear H'
  try clear p2
  obtain ⟨x3_1,x4_1,rfl,rfl,HA,HK1,Ba,HB⟩:=hrel
  cases gk with
 |zero=>exact absurd HA.out (by simp [spec_l11Next.l0])
 |succ k1 =>
   have H:=HA.out
   clear HA
   simp only [spec_l11Next.l0] at H
   by_cases c3:x4_1<(l0_0.length:Int)
   rotate_left
   ·rw [if_neg c3] at H
    have c3b0:decide (x4_1<(l0_0.length:Int))=false:=decide_eq_false c3
    clear c3
    obtain rfl:=Option.some.inj H
    have Bq:=cz0 Ba.out
    have Br:=cz1 Ba.out
    have Bs:=bF Ba.out 0
    have Bt:=bF Ba.out 1
    go_wp2
    repeat (go_quiet (fail);try go_wp2)
    go_ret
    exact ⟨by first|rfl|(simp [errW_none,errW_some] <;> rfl)|(simp [*,errW_none,errW_some] <;> rfl),by repeat (first|(with_reducible first|exact HB.out|apply oA|apply pN|apply o1|refine bS ?_ Bc.out)|exact HB.out)⟩

   rw [if_pos c3] at H
   have c3b0:decide (x4_1<(l0_0.length:Int))=true:=decide_eq_true c3
   clear c3
   by_cases c4:0≤x4_1
   rotate_left
   ·rw [if_neg c4] at H
    exact absurd H (by simp)
   rw [if_pos c4] at H
   have c4b0:decide (0≤x4_1)=true:=decide_eq_true c4
   clear c4
   obtain ⟨bq5,hbq5⟩:∃ b_:Bool,b_=((rd_T40 l0_0 x4_1).f3):=⟨_,rfl⟩
   replace H:(if bq5=true then (if x3_1<0 then (spec_l11Next.l0 k1 x4_1 (wrap64 (x4_1 + 1)) l0_0 a0_1) else (if 0≤x3_1 then (if x3_1<(l0_0.length:Int) then (if ((rd_T40 l0_0 x4_1).f2)<((rd_T40 l0_0 x3_1).f2) then (spec_l11Next.l0 k1 x4_1 (wrap64 (x4_1 + 1)) l0_0 a0_1) else (spec_l11Next.l0 k1 x3_1 (wrap64 (x4_1 + 1)) l0_0 a0_1)) else (none)) else (none))) else (spec_l11Next.l0 k1 x3_1 (wrap64 (x4_1 + 1)) l0_0 a0_1))=some r:=by rw [← hbq5] at H;exact H
   have Nbq5:=Am hbq5
   clear hbq5
   by_cases c6:bq5=true
   rotate_left
   ·replace c6:=Bool.eq_false_iff.mpr c6
    subst c6
    have H1:(spec_l11Next.l0 k1 x3_1 (wrap64 (x4_1 + 1)) l0_0 a0_1)=some r:=by rw [if_neg (show ¬ (false=true) by decide)] at H;exact H
    clear H
    have H:=H1
    clear H1
    have H':=Am H
    clear H
    have Bm:=cz0 Ba.out
    have Bn:=cz1 Ba.out
    have Bo:=bF Ba.out 0
    have Bp:=bF Ba.out 1
    have p137:0≤(x4_1:Int):=of_decide_eq_true (by first|(with_reducible assumption)|assumption)
    have q137:x4_1<(l0_0.length:Int):=of_decide_eq_true (by first|(with_reducible assumption)|assumption)
    obtain ⟨ad137,e137,hx137_0,hx137_1,hx137_2,hx137_3⟩:=at_T40 HR0_0.out x4_1 p137 q137
    (try rw [← Nbq5.out] at hx137_3)
    cases e137
    replace hx137_0:=(bW HB hx137_0:)
    replace hx137_1:=(bW HB hx137_1:)
    replace hx137_2:=(bW HB hx137_2:)
    replace hx137_3:=(bW HB hx137_3:)
    replace p137:=eq_true p137
    replace q137:=eq_true q137
    go_wp2
    repeat (go_quiet (fail);try go_wp2)
    go_roundg k1
    case measure=>have:=HK1.out;omega
    case rel=>exact ⟨(x3_1),(wrap64 (x4_1 + 1)),(by first|rfl|(simp;done)|(simp [*];done)),(by first|rfl|(simp;done)|(simp [*];done)),H',⟨by have:=HK1.out;omega⟩,⟨by (with_reducible repeat (first|refine bN ?_ _|refine bD ?_|refine bA ?_ _));exact Ba.out⟩,⟨by repeat (first|(with_reducible first|exact HB.out|apply oA|apply pN|apply o1|refine bS ?_ Bc.out)|exact HB.out)⟩⟩
   subst c6
   have H1:(if x3_1<0 then (spec_l11Next.l0 k1 x4_1 (wrap64 (x4_1 + 1)) l0_0 a0_1) else (if 0≤x3_1 then (if x3_1<(l0_0.length:Int) then (if ((rd_T40 l0_0 x4_1).f2)<((rd_T40 l0_0 x3_1).f2) then (spec_l11Next.l0 k1 x4_1 (wrap64 (x4_1 + 1)) l0_0 a0_1) else (spec_l11Next.l0 k1 x3_1 (wrap64 (x4_1 + 1)) l0_0 a0_1)) else (none)) else (none)))=some r:=by rw [if_pos rfl] at H;exact H
   clear H
   have H:=H1
   clear H1
   by_cases c7:x3_1<0
   ·rw [if_pos c7] at H
    have c7b0:decide (x3_1<0)=true:=decide_eq_true c7
    clear c7
    have H':=Am H
    clear H
    have Bu:=cz0 Ba.out
    have Bv:=cz1 Ba.out
    have Bw:=bF Ba.out 0
    have Bx:=bF Ba.out 1
    have p137:0≤(x4_1:Int):=of_decide_eq_true (by first|(with_reducible assumption)|assumption)
    have q137:x4_1<(l0_0.length:Int):=of_decide_eq_true (by first|(with_reducible assumption)|assumption)
    obtain ⟨ad137,e137,hx137_0,hx137_1,hx137_2,hx137_3⟩:=at_T40 HR0_0.out x4_1 p137 q137
    (try rw [← Nbq5.out] at hx137_3)
    cases e137
    replace hx137_0:=(bW HB hx137_0:)
    replace hx137_1:=(bW HB hx137_1:)
    replace hx137_2:=(bW HB hx137_2:)
    replace hx137_3:=(bW HB hx137_3:)
    replace p137:=eq_true p137
    replace q137:=eq_true q137
    go_wp2
    repeat (go_quiet (fail);try go_wp2)
    go_roundg k1
    case measure=>have:=HK1.out;omega
    case rel=>exact ⟨(x4_1),(wrap64 (x4_1 + 1)),(by first|rfl|(simp;done)|(simp [*];done)),(by first|rfl|(simp;done)|(simp [*];done)),H',⟨by have:=HK1.out;omega⟩,⟨by (with_reducible repeat (first|refine bN ?_ _|refine bD ?_|refine bA ?_ _));exact Ba.out⟩,⟨by repeat (first|(with_reducible first|exact HB.out|apply oA|apply pN|apply o1|refine bS ?_ Bc.out)|exact HB.out)⟩⟩
   rw [if_neg c7] at H
   have c7b0:decide (x3_1<0)=false:=decide_eq_false c7
   clear c7
   by_cases c9:0≤x3_1
   rotate_left
   ·rw [if_neg c9] at H
    exact absurd H (by simp)
   rw [if_pos c9] at H
   have c9b0:decide (0≤x3_1)=true:=decide_eq_true c9
   clear c9
   by_cases c10:x3_1<(l0_0.length:Int)
   rotate_left
   ·rw [if_neg c10] at H
    exact absurd H (by simp)
   rw [if_pos c10] at H
   have c10b0:decide (x3_1<(l0_0.length:Int))=true:=decide_eq_true c10
   clear c10
   by_cases c11:((rd_T40 l0_0 x4_1).f2)<((rd_T40 l0_0 x3_1).f2)
   ·rw [if_pos c11] at H
    have c11b0:decide (((rd_T40 l0_0 x4_1).f2)<((rd_T40 l0_0 x3_1).f2))=true:=decide_eq_true c11
    clear c11
    have H':=Am H
    clear H
    have Be:=cz0 Ba.out
    have Bf:=cz1 Ba.out
    have Bg:=bF Ba.out 0
    have Bh:=bF Ba.out 1
    have p137:0≤(x4_1:Int):=of_decide_eq_true (by first|(with_reducible assumption)|assumption)
    have q137:x4_1<(l0_0.length:Int):=of_decide_eq_true (by first|(with_reducible assumption)|assumption)
    obtain ⟨ad137,e137,hx137_0,hx137_1,hx137_2,hx137_3⟩:=at_T40 HR0_0.out x4_1 p137 q137
    (try rw [← Nbq5.out] at hx137_3)
    cases e137
    replace hx137_0:=(bW HB hx137_0:)
    replace hx137_1:=(bW HB hx137_1:)
    replace hx137_2:=(bW HB hx137_2:)
    replace hx137_3:=(bW HB hx137_3:)
    replace p137:=eq_true p137
    replace q137:=eq_true q137
    have p138:0≤(x4_1:Int):=of_decide_eq_true (by first|(with_reducible assumption)|assumption)
    have q138:x4_1<(l0_0.length:Int):=of_decide_eq_true (by first|(with_reducible assumption)|assumption)
    obtain ⟨ad138,e138,hx138_0,hx138_1,hx138_2,hx138_3⟩:=at_T40 HR0_0.out x4_1 p138 q138
    (try rw [← Nbq5.out] at hx138_3)
    obtain rfl:ad137=ad138:=(by injection e138)
    replace hx138_0:=(bW HB hx138_0:)
    replace hx138_1:=(bW HB hx138_1:)
    replace hx138_2:=(bW HB hx138_2:)
    replace hx138_3:=(bW HB hx138_3:)
    replace p138:=eq_true p138
    replace q138:=eq_true q138
    have p139:0≤(x3_1:Int):=of_decide_eq_true (by first|(with_reducible assumption)|assumption)
    have q139:x3_1<(l0_0.length:Int):=of_decide_eq_true (by first|(with_reducible assumption)|assumption)
    obtain ⟨ad139,e139,hx139_0,hx139_1,hx139_2,hx139_3⟩:=at_T40 HR0_0.out x3_1 p139 q139
    (try rw [← Nbq5.out] at hx139_3)
    obtain rfl:ad137=ad139:=(by injection e139)
    replace hx139_0:=(bW HB hx139_0:)
    replace hx139_1:=(bW HB hx139_1:)
    replace hx139_2:=(bW HB hx139_2:)
    replace hx139_3:=(bW HB hx139_3:)
    replace p139:=eq_true p139
    replace q139:=eq_true q139
    go_wp2
    repeat (go_quiet (fail);try go_wp2)
    go_roundg k1
    case measure=>have:=HK1.out;omega
    case rel=>exact ⟨(x4_1),(wrap64 (x4_1 + 1)),(by first|rfl|(simp;done)|(simp [*];done)),(by first|rfl|(simp;done)|(simp [*];done)),H',⟨by have:=HK1.out;omega⟩,⟨by (with_reducible repeat (first|refine bN ?_ _|refine bD ?_|refine bA ?_ _));exact Ba.out⟩,⟨by repeat (first|(with_reducible first|exact HB.out|apply oA|apply pN|apply o1|refine bS ?_ Bc.out)|exact HB.out)⟩⟩
   rw [if_neg c11] at H
   have c11b0:decide (((rd_T40 l0_0 x4_1).f2)<((rd_T40 l0_0 x3_1).f2))=false:=decide_eq_false c11
   clear c11
   have H':=Am H
   clear H
   have Bi:=cz0 Ba.out
   have Bj:=cz1 Ba.out
   have Bk:=bF Ba.out 0
   have Bl:=bF Ba.out 1
   have p137:0≤(x4_1:Int):=of_decide_eq_true (by first|(with_reducible assumption)|assumption)
   have q137:x4_1<(l0_0.length:Int):=of_decide_eq_true (by first|(with_reducible assumption)|assumption)
   obtain ⟨ad137,e137,hx137_0,hx137_1,hx137_2,hx137_3⟩:=at_T40 HR0_0.out x4_1 p137 q137
   (try rw [← Nbq5.out] at hx137_3)
   cases e137
   replace hx137_0:=(bW HB hx137_0:)
   replace hx137_1:=(bW HB hx137_1:)
   replace hx137_2:=(bW HB hx137_2:)
   replace hx137_3:=(bW HB hx137_3:)
   replace p137:=eq_true p137
   replace q137:=eq_true q137
   have p138:0≤(x4_1:Int):=of_decide_eq_true (by first|(with_reducible assumption)|assumption)
   have q138:x4_1<(l0_0.length:Int):=of_decide_eq_true (by first|(with_reducible assumption)|assumption)
   obtain ⟨ad138,e138,hx138_0,hx138_1,hx138_2,hx138_3⟩:=at_T40 HR0_0.out x4_1 p138 q138
   (try rw [← Nbq5.out] at hx138_3)
   obtain rfl:ad137=ad138:=(by injection e138)
   replace hx138_0:=(bW HB hx138_0:)
   replace hx138_1:=(bW HB hx138_1:)
   replace hx138_2:=(bW HB hx138_2:)
   replace hx138_3:=(bW HB hx138_3:)
   replace p138:=eq_true p138
   replace q138:=eq_true q138
   have p139:0≤(x3_1:Int):=of_decide_eq_true (by first|(with_reducible assumption)|assumption)
   have q139:x3_1<(l0_0.length:Int):=of_decide_eq_true (by first|(with_reducible assumption)|assumption)
   obtain ⟨ad139,e139,hx139_0,hx139_1,hx139_2,hx139_3⟩:=at_T40 HR0_0.out x3_1 p139 q139
   (try rw [← Nbq5.out] at hx139_3)
   obtain rfl:ad137=ad139:=(by injection e139)
   replace hx139_0:=(bW HB hx139_0:)
   replace hx139_1:=(bW HB hx139_1:)
   replace hx139_2:=(bW HB hx139_2:)
   replace hx139_3:=(bW HB hx139_3:)
   replace p139:=eq_true p139
   replace q139:=eq_true q139
   go_wp2
   repeat (go_quiet (fail);try go_wp2)
   go_roundg k1
   case measure=>have:=HK1.out;omega
   case rel=>exact ⟨(x3_1),(wrap64 (x4_1 + 1)),(by first|rfl|(simp;done)|(simp [*];done)),(by first|rfl|(simp;done)|(simp [*];done)),H',⟨by have:=HK1.out;omega⟩,⟨by (with_reducible repeat (first|refine bN ?_ _|refine bD ?_|refine bA ?_ _));exact Ba.out⟩,⟨by repeat (first|(with_reducible first|exact HB.out|apply oA|apply pN|apply o1|refine bS ?_ Bc.out)|exact HB.out)⟩⟩
end Go.Proofs.Ytfhcgmfodfcpeaa.PFnQueueLess
