/- Proved here, without a condition beyond those that each theorem states: what the Go functions named below do is what the plain functions of the same names say. Written by xprint.py, a program of this session. -/
import Derived.Test.YtfhcgmfodfcpeaaPFnQueueLessx0
namespace Go.Proofs.Ytfhcgmfodfcpeaa.PFnQueueLess
open Go.RowKit Go.Proofs.YtfhcgmfodfcpeaaW.PrintWords Go.Proofs.YtfhcgmfodfcpeaaW.PrintLast Go.Proofs.YtfhcgmfodfcpeaaW.PrintMore
attribute [local go_sem] max2_int min2_int max_two min_two max_three min_three max_four min_four   -- for this text's walks alone
set_option linter.unusedVariables false
set_option linter.unusedSimpArgs false

attribute [local go_sem ↓] isSome_setCell_
/-! ### spec_l11Add: function 47 -/
def spec_l11Add.l0 : Nat → List (S40) → Bool → Int → List (S40) → Int → Int → Int → Int → Bool → Option ((List (S40)) × Int)
|0, _, _, _, _, _, _, _, _, _ => none
|k + 1, x5, x6, x7, x150000, x150001, x151000, x151001, x151002, x151003 => if x7 < (x150000.length : Int) then (if x6 = true then (if 0 ≤ x7 then (if x5.length < 4398046511104 then (spec_l11Add.l0 k (x5 ++ [(⟨(rd_T40 x150000 x7).f0, (rd_T40 x150000 x7).f1, (rd_T40 x150000 x7).f2, (rd_T40 x150000 x7).f3⟩ : S40)]) x6 (wrap64 (x7 + 1)) x150000 x150001 x151000 x151001 x151002 x151003) else (none)) else (none)) else (if 0 ≤ x7 then (if ((rd_T40 x150000 x7).f0) > x151000 then (if x5.length < 4398046511104 then ((some (x5 ++ [(⟨x151000, x151001, x151002, x151003⟩ : S40)] : List (S40))).bind fun y160 => (if y160.length < 4398046511104 then (spec_l11Add.l0 k (y160 ++ [(⟨(rd_T40 x150000 x7).f0, (rd_T40 x150000 x7).f1, (rd_T40 x150000 x7).f2, (rd_T40 x150000 x7).f3⟩ : S40)]) true (wrap64 (x7 + 1)) x150000 x150001 x151000 x151001 x151002 x151003) else (none))) else (none)) else (if x5.length < 4398046511104 then (spec_l11Add.l0 k (x5 ++ [(⟨(rd_T40 x150000 x7).f0, (rd_T40 x150000 x7).f1, (rd_T40 x150000 x7).f2, (rd_T40 x150000 x7).f3⟩ : S40)]) x6 (wrap64 (x7 + 1)) x150000 x150001 x151000 x151001 x151002 x151003) else (none))) else (none))) else (if x6 = true then (some (x5, x150001)) else (if x5.length < 4398046511104 then (some ((x5 ++ [(⟨x151000, x151001, x151002, x151003⟩ : S40)]), x150001)) else (none)))
def spec_l11Add.f (k : Nat) (l0_0 : List (S40)) (a0_1 : Int) (a1_0 : Int) (a1_1 : Int) (a1_2 : Int) (a1_3 : Bool) : Option ((List (S40)) × Int) := spec_l11Add.l0 k (([] : List (S40))) false 0 l0_0 a0_1 a1_0 a1_1 a1_2 a1_3
theorem spec_l11Add.mono_l : ∀ k, (∀ y0 y1 y2 y3 y4 y5 y6 y7 y8, LeO (spec_l11Add.l0 k y0 y1 y2 y3 y4 y5 y6 y7 y8) (spec_l11Add.l0 (k + 1) y0 y1 y2 y3 y4 y5 y6 y7 y8))
|0 => fun _ _ _ _ _ _ _ _ _ r h => by simp [spec_l11Add.l0] at h
|k + 1 => by
  have ih0 := spec_l11Add.mono_l k
  ·intro y0 y1 y2 y3 y4 y5 y6 y7 y8
   unfold spec_l11Add.l0
   repeat' first
  |(with_reducible exact ih0 _ _ _ _ _ _ _ _ _)
  |(with_reducible exact LeO.refl _)
  |(with_reducible exact LeO.none _)
  |(with_reducible refine LeO.ite ?_ ?_)
  |(with_reducible refine LeO.bind ?_ (fun _ => ?_))
  |exact ih0 _ _ _ _ _ _ _ _ _
  |exact LeO.none _
  |refine LeO.ite ?_ ?_
  |refine LeO.bind ?_ (fun _ => ?_)
theorem spec_l11Add.mono : ∀ a0 a1 a2 a3 a4 a5 k, LeO (spec_l11Add.f k a0 a1 a2 a3 a4 a5) (spec_l11Add.f (k + 1) a0 a1 a2 a3 a4 a5) := by
 intro a0 a1 a2 a3 a4 a5 k
 have ih0 := spec_l11Add.mono_l k
 unfold spec_l11Add.f
 repeat' first
  |(with_reducible exact ih0 _ _ _ _ _ _ _ _ _)
  |(with_reducible exact LeO.refl _)
  |(with_reducible exact LeO.none _)
  |(with_reducible refine LeO.ite ?_ ?_)
  |(with_reducible refine LeO.bind ?_ (fun _ => ?_))
  |exact ih0 _ _ _ _ _ _ _ _ _
  |exact LeO.none _
  |refine LeO.ite ?_ ?_
  |refine LeO.bind ?_ (fun _ => ?_)
set_option maxHeartbeats 2000000 in
set_option maxRecDepth 100000 in
theorem spec_l11Add.calls (k:Nat) (A0_0:Option Addr) (c0_0:Nat) (l0_0:List (S40)) (a0_1:Int) (a1_0:Int) (a1_1:Int) (a1_2:Int) (a1_3:Bool) (r1:List (S40)) (r2:Int) (w:World) (hr0_0:Kd.C k40 w A0_0 l0_0.length l0_0) (hc0_0:l0_0.length≤c0_0) (h:spec_l11Add.f k l0_0 a0_1 a1_0 a1_1 a1_2 a1_3=some (r1,r2)) :
  Calls Try.prog 47 #[.agg #[.slice A0_0 l0_0.length c0_0,.int .i64 a0_1],.agg #[.int .i64 a1_0,.int .i64 a1_1,.int .i64 a1_2,.bool a1_3]] w fun e w'=>∃ v0_:Value,e=.returned (.agg #[v0_,.int .i64 r2])∧Kd.R k40 40 w' w.heap.size (fun _=>True) v0_ r1∧Below w.heap.size w w':=by
 have hu25:=Try.underlying25
 have hu40:=Try.underlying40
 have HR0_0:=Am hr0_0
 have HC0_0:=Am hc0_0
 clear hr0_0 hc0_0
 have HB:=Am (Below.refl w.heap.size w)
 have H:(spec_l11Add.l0 k (([]:List (S40))) false 0 l0_0 a0_1 a1_0 a1_1 a1_2 a1_3)=some (r1,r2):=h
 clear h
 obtain ⟨y152,hy152⟩:∃ y_:List (S40),y_=(([]:List (S40))):=⟨_,rfl⟩
 replace H:(spec_l11Add.l0 k y152 false 0 l0_0 a0_1 a1_0 a1_1 a1_2 a1_3)=some (r1,r2):=by first|(rw [hy152];with_reducible exact H)|(have H2_:=(Option.bind_some _ _).symm.trans H;rw [hy152];with_reducible exact H2_)|(have H2_:=(Option.bind_some _ _).symm.trans H;with_reducible exact H2_)|with_reducible exact H|(rw [hy152];exact H)|exact H
 have Ny152:=Am hy152
 clear hy152
 have H':=Am H
 clear H
 go_enter Try.func47,Try.ntmps47
 go_wp2_with (first|((with_reducible refine gate_dst (N:=2) rfl ?_);refine box_event ?hg (N:=2) ?hd (cs:=#[.slice A0_0 l0_0.length c0_0,.int .i64 a0_1]) (t:=25) ?hr ?_;(case hd=>rfl);(case hg=>rfl);(case hr=>first|(go_simp;done)|(go_simp;rfl));intro Be hg w3 hbox hb;have n0_:=Am (bP (by repeat (first|(with_reducible first|exact HB.out|apply oA|apply pN|apply o1)|exact HB.out)) hb);have n1_:=Am (hbox);have n2_:=Am ((by rw [hg];exact (bZ (by repeat (first|(with_reducible first|exact HB.out|apply oA|apply pN|apply o1)|exact HB.out))):w.heap.size≤Be));have n3_:=Am ((by rw [hg];exact (bZ (by repeat (first|(with_reducible first|exact HB.out|apply oA|apply pN|apply o1)|exact HB.out))):w.heap.size≤Be));clear HB;revert n0_ n1_ n2_ n3_;intro HB Ba BI Bf;clear hb hbox hg)|((with_reducible refine gate_dst (N:=3) rfl ?_);refine box_event ?hg (N:=3) ?hd (cs:=#[.int .i64 a1_0,.int .i64 a1_1,.int .i64 a1_2,.bool a1_3]) (t:=40) ?hr ?_;(case hd=>rfl);(case hg=>rfl);(case hr=>first|(go_simp;done)|(go_simp;rfl));intro Bd hg w4 hbox hb;have n0_:=Am (bX Ba.out hb);have n1_:=Am (bP (by repeat (first|(with_reducible first|exact HB.out|apply oA|apply pN|apply o1|refine bS ?_ Bf.out)|exact HB.out)) hb);have n2_:=Am (hbox);have n3_:=Am ((by rw [hg];exact (bZ (by repeat (first|(with_reducible first|exact HB.out|apply oA|apply pN|apply o1|refine bS ?_ Bf.out)|exact HB.out))):w.heap.size≤Bd));have n4_:=Am ((by rw [hg];exact (bZ (by repeat (first|(with_reducible first|exact HB.out|apply oA|apply pN|apply o1|refine bS ?_ Bf.out)|exact HB.out))):w.heap.size≤Bd));have n5_:=Am ((nL Ba.out hg));have n6_:=Am ((nG Ba.out hg));clear Ba HB;revert n0_ n1_ n2_ n3_ n4_ n5_ n6_;intro Ba HB Bb BJ Bg Bm Bn;clear hb hbox hg)|((with_reducible refine gate_dst (N:=4) rfl ?_);refine box_event ?hg (N:=4) ?hd (cs:=#[.slice none 0 0,.int .i64 0]) (t:=25) ?hr ?_;(case hd=>rfl);(case hg=>rfl);(case hr=>first|(go_simp;done)|(go_simp;rfl));intro Bh hg w5 hbox hb;have n0_:=Am (bX Ba.out hb);have n1_:=Am (bX Bb.out hb);have n2_:=Am (bP (by repeat (first|(with_reducible first|exact HB.out|apply oA|apply pN|apply o1|refine bS ?_ Bf.out|refine bS ?_ Bg.out)|exact HB.out)) hb);have n3_:=Am (hbox);have n4_:=Am ((by rw [hg];exact (bZ (by repeat (first|(with_reducible first|exact HB.out|apply oA|apply pN|apply o1|refine bS ?_ Bf.out|refine bS ?_ Bg.out)|exact HB.out))):w.heap.size≤Bh));have n5_:=Am ((by rw [hg];exact (bZ (by repeat (first|(with_reducible first|exact HB.out|apply oA|apply pN|apply o1|refine bS ?_ Bf.out|refine bS ?_ Bg.out)|exact HB.out))):w.heap.size≤Bh));have n6_:=Am ((nL Ba.out hg));have n7_:=Am ((nG Ba.out hg));have n8_:=Am ((nL Bb.out hg));have n9_:=Am ((nG Bb.out hg));clear Ba Bb HB;revert n0_ n1_ n2_ n3_ n4_ n5_ n6_ n7_ n8_ n9_;intro Ba Bb HB Bc BK Bj Bo Bk Bp Bq;clear hb hbox hg)|((with_reducible refine gate_dst (N:=8) rfl ?_);refine Kd.R_lit k40 _ 40 ?hg (N:=8) ?hd (xs:=([]:List (S40))) (inner:=[]) (ok:=fun _=>True) (okp:=fun _=>True) ?hr ?hp (fun _ hk=>hk) trivial (Below.refl _ _) (Nat.le_refl _) (by simp) ?_;(case hd=>rfl);(case hg=>rfl);(case hr=>first|(go_simp;done)|(go_simp;rfl));(case hp=>exact (Reps.none _ _));intro v153 w6 ho7 hb hg_ hnew_;clear hg_ hnew_;(first|rw [← Ny152.out] at ho7|(simp only [Int.reduceToNat] at ho7;rw [← Ny152.out] at ho7));have n0_:=Am (Kd.R_lower (Kd.R_newB ho7 (g:=Bd) (o:=.cells #[.int .i64 a1_0,.int .i64 a1_1,.int .i64 a1_2,.bool a1_3] 40 (0,0)) (bL Bb.out)) (bZ (by repeat (first|(with_reducible first|exact HB.out|apply oA|apply pN|apply o1|refine bS ?_ Bf.out|refine bS ?_ Bg.out|refine bS ?_ Bj.out)|exact HB.out))));have n1_:=Am (bX Ba.out hb);have n2_:=Am (bX Bb.out hb);have n3_:=Am (bX Bc.out hb);have n4_:=Am (bP (by repeat (first|(with_reducible first|exact HB.out|apply oA|apply pN|apply o1|refine bS ?_ Bf.out|refine bS ?_ Bg.out|refine bS ?_ Bj.out)|exact HB.out)) hb);clear Ba Bb Bc HB;revert n0_ n1_ n2_ n3_ n4_;intro BE Ba Bb Bc HB;clear hb ho7))
 repeat (go_quiet (first|((with_reducible refine gate_dst (N:=2) rfl ?_);refine box_event ?hg (N:=2) ?hd (cs:=#[.slice A0_0 l0_0.length c0_0,.int .i64 a0_1]) (t:=25) ?hr ?_;(case hd=>rfl);(case hg=>rfl);(case hr=>first|(go_simp;done)|(go_simp;rfl));intro Be hg w3 hbox hb;have n0_:=Am (bP (by repeat (first|(with_reducible first|exact HB.out|apply oA|apply pN|apply o1)|exact HB.out)) hb);have n1_:=Am (hbox);have n2_:=Am ((by rw [hg];exact (bZ (by repeat (first|(with_reducible first|exact HB.out|apply oA|apply pN|apply o1)|exact HB.out))):w.heap.size≤Be));have n3_:=Am ((by rw [hg];exact (bZ (by repeat (first|(with_reducible first|exact HB.out|apply oA|apply pN|apply o1)|exact HB.out))):w.heap.size≤Be));clear HB;revert n0_ n1_ n2_ n3_;intro HB Ba BI Bf;clear hb hbox hg)|((with_reducible refine gate_dst (N:=3) rfl ?_);refine box_event ?hg (N:=3) ?hd (cs:=#[.int .i64 a1_0,.int .i64 a1_1,.int .i64 a1_2,.bool a1_3]) (t:=40) ?hr ?_;(case hd=>rfl);(case hg=>rfl);(case hr=>first|(go_simp;done)|(go_simp;rfl));intro Bd hg w4 hbox hb;have n0_:=Am (bX Ba.out hb);have n1_:=Am (bP (by repeat (first|(with_reducible first|exact HB.out|apply oA|apply pN|apply o1|refine bS ?_ Bf.out)|exact HB.out)) hb);have n2_:=Am (hbox);have n3_:=Am ((by rw [hg];exact (bZ (by repeat (first|(with_reducible first|exact HB.out|apply oA|apply pN|apply o1|refine bS ?_ Bf.out)|exact HB.out))):w.heap.size≤Bd));have n4_:=Am ((by rw [hg];exact (bZ (by repeat (first|(with_reducible first|exact HB.out|apply oA|apply pN|apply o1|refine bS ?_ Bf.out)|exact HB.out))):w.heap.size≤Bd));have n5_:=Am ((nL Ba.out hg));have n6_:=Am ((nG Ba.out hg));clear Ba HB;revert n0_ n1_ n2_ n3_ n4_ n5_ n6_;intro Ba HB Bb BJ Bg Bm Bn;clear hb hbox hg)|((with_reducible refine gate_dst (N:=4) rfl ?_);refine box_event ?hg (N:=4) ?hd (cs:=#[.slice none 0 0,.int .i64 0]) (t:=25) ?hr ?_;(case hd=>rfl);(case hg=>rfl);(case hr=>first|(go_simp;done)|(go_simp;rfl));intro Bh hg w5 hbox hb;have n0_:=Am (bX Ba.out hb);have n1_:=Am (bX Bb.out hb);have n2_:=Am (bP (by repeat (first|(with_reducible first|exact HB.out|apply oA|apply pN|apply o1|refine bS ?_ Bf.out|refine bS ?_ Bg.out)|exact HB.out)) hb);have n3_:=Am (hbox);have n4_:=Am ((by rw [hg];exact (bZ (by repeat (first|(with_reducible first|exact HB.out|apply oA|apply pN|apply o1|refine bS ?_ Bf.out|refine bS ?_ Bg.out)|exact HB.out))):w.heap.size≤Bh));have n5_:=Am ((by rw [hg];exact (bZ (by repeat (first|(with_reducible first|exact HB.out|apply oA|apply pN|apply o1|refine bS ?_ Bf.out|refine bS ?_ Bg.out)|exact HB.out))):w.heap.size≤Bh));have n6_:=Am ((nL Ba.out hg));have n7_:=Am ((nG Ba.out hg));have n8_:=Am ((nL Bb.out hg));have n9_:=Am ((nG Bb.out hg));clear Ba Bb HB;revert n0_ n1_ n2_ n3_ n4_ n5_ n6_ n7_ n8_ n9_;intro Ba Bb HB Bc BK Bj Bo Bk Bp Bq;clear hb hbox hg)|((with_reducible refine gate_dst (N:=8) rfl ?_);refine Kd.R_lit k40 _ 40 ?hg (N:=8) ?hd (xs:=([]:List (S40))) (inner:=[]) (ok:=fun _=>True) (okp:=fun _=>True) ?hr ?hp (fun _ hk=>hk) trivial (Below.refl _ _) (Nat.le_refl _) (by simp) ?_;(case hd=>rfl);(case hg=>rfl);(case hr=>first|(go_simp;done)|(go_simp;rfl));(case hp=>exact (Reps.none _ _));intro v153 w6 ho7 hb hg_ hnew_;clear hg_ hnew_;(first|rw [← Ny152.out] at ho7|(simp only [Int.reduceToNat] at ho7;rw [← Ny152.out] at ho7));have n0_:=Am (Kd.R_lower (Kd.R_newB ho7 (g:=Bd) (o:=.cells #[.int .i64 a1_0,.int .i64 a1_1,.int .i64 a1_2,.bool a1_3] 40 (0,0)) (bL Bb.out)) (bZ (by repeat (first|(with_reducible first|exact HB.out|apply oA|apply pN|apply o1|refine bS ?_ Bf.out|refine bS ?_ Bg.out|refine bS ?_ Bj.out)|exact HB.out))));have n1_:=Am (bX Ba.out hb);have n2_:=Am (bX Bb.out hb);have n3_:=Am (bX Bc.out hb);have n4_:=Am (bP (by repeat (first|(with_reducible first|exact HB.out|apply oA|apply pN|apply o1|refine bS ?_ Bf.out|refine bS ?_ Bg.out|refine bS ?_ Bj.out)|exact HB.out)) hb);clear Ba Bb Bc HB;revert n0_ n1_ n2_ n3_ n4_;intro BE Ba Bb Bc HB;clear hb ho7));try go_wp2_with (first|((with_reducible refine gate_dst (N:=2) rfl ?_);refine box_event ?hg (N:=2) ?hd (cs:=#[.slice A0_0 l0_0.length c0_0,.int .i64 a0_1]) (t:=25) ?hr ?_;(case hd=>rfl);(case hg=>rfl);(case hr=>first|(go_simp;done)|(go_simp;rfl));intro Be hg w3 hbox hb;have n0_:=Am (bP (by repeat (first|(with_reducible first|exact HB.out|apply oA|apply pN|apply o1)|exact HB.out)) hb);have n1_:=Am (hbox);have n2_:=Am ((by rw [hg];exact (bZ (by repeat (first|(with_reducible first|exact HB.out|apply oA|apply pN|apply o1)|exact HB.out))):w.heap.size≤Be));have n3_:=Am ((by rw [hg];exact (bZ (by repeat (first|(with_reducible first|exact HB.out|apply oA|apply pN|apply o1)|exact HB.out))):w.heap.size≤Be));clear HB;revert n0_ n1_ n2_ n3_;intro HB Ba BI Bf;clear hb hbox hg)|((with_reducible refine gate_dst (N:=3) rfl ?_);refine box_event ?hg (N:=3) ?hd (cs:=#[.int .i64 a1_0,.int .i64 a1_1,.int .i64 a1_2,.bool a1_3]) (t:=40) ?hr ?_;(case hd=>rfl);(case hg=>rfl);(case hr=>first|(go_simp;done)|(go_simp;rfl));intro Bd hg w4 hbox hb;have n0_:=Am (bX Ba.out hb);have n1_:=Am (bP (by repeat (first|(with_reducible first|exact HB.out|apply oA|apply pN|apply o1|refine bS ?_ Bf.out)|exact HB.out)) hb);have n2_:=Am (hbox);have n3_:=Am ((by rw [hg];exact (bZ (by repeat (first|(with_reducible first|exact HB.out|apply oA|apply pN|apply o1|refine bS ?_ Bf.out)|exact HB.out))):w.heap.size≤Bd));have n4_:=Am ((by rw [hg];exact (bZ (by repeat (first|(with_reducible first|exact HB.out|apply oA|apply pN|apply o1|refine bS ?_ Bf.out)|exact HB.out))):w.heap.size≤Bd));have n5_:=Am ((nL Ba.out hg));have n6_:=Am ((nG Ba.out hg));clear Ba HB;revert n0_ n1_ n2_ n3_ n4_ n5_ n6_;intro Ba HB Bb BJ Bg Bm Bn;clear hb hbox hg)|((with_reducible refine gate_dst (N:=4) rfl ?_);refine box_event ?hg (N:=4) ?hd (cs:=#[.slice none 0 0,.int .i64 0]) (t:=25) ?hr ?_;(case hd=>rfl);(case hg=>rfl);(case hr=>first|(go_simp;done)|(go_simp;rfl));intro Bh hg w5 hbox hb;have n0_:=Am (bX Ba.out hb);have n1_:=Am (bX Bb.out hb);have n2_:=Am (bP (by repeat (first|(with_reducible first|exact HB.out|apply oA|apply pN|apply o1|refine bS ?_ Bf.out|refine bS ?_ Bg.out)|exact HB.out)) hb);have n3_:=Am (hbox);have n4_:=Am ((by rw [hg];exact (bZ (by repeat (first|(with_reducible first|exact HB.out|apply oA|apply pN|apply o1|refine bS ?_ Bf.out|refine bS ?_ Bg.out)|exact HB.out))):w.heap.size≤Bh));have n5_:=Am ((by rw [hg];exact (bZ (by repeat (first|(with_reducible first|exact HB.out|apply oA|apply pN|apply o1|refine bS ?_ Bf.out|refine bS ?_ Bg.out)|exact HB.out))):w.heap.size≤Bh));have n6_:=Am ((nL Ba.out hg));have n7_:=Am ((nG Ba.out hg));have n8_:=Am ((nL Bb.out hg));have n9_:=Am ((nG Bb.out hg));clear Ba Bb HB;revert n0_ n1_ n2_ n3_ n4_ n5_ n6_ n7_ n8_ n9_;intro Ba Bb HB Bc BK Bj Bo Bk Bp Bq;clear hb hbox hg)|((with_reducible refine gate_dst (N:=8) rfl ?_);refine Kd.R_lit k40 _ 40 ?hg (N:=8) ?hd (xs:=([]:List (S40))) (inner:=[]) (ok:=fun _=>True) (okp:=fun _=>True) ?hr ?hp (fun _ hk=>hk) trivial (Below.refl _ _) (Nat.le_refl _) (by simp) ?_;(case hd=>rfl);(case hg=>rfl);(case hr=>first|(go_simp;done)|(go_simp;rfl));(case hp=>exact (Reps.none _ _));intro v153 w6 ho7 hb hg_ hnew_;clear hg_ hnew_;(first|rw [← Ny152.out] at ho7|(simp only [Int.reduceToNat] at ho7;rw [← Ny152.out] at ho7));have n0_:=Am (Kd.R_lower (Kd.R_newB ho7 (g:=Bd) (o:=.cells #[.int .i64 a1_0,.int .i64 a1_1,.int .i64 a1_2,.bool a1_3] 40 (0,0)) (bL Bb.out)) (bZ (by repeat (first|(with_reducible first|exact HB.out|apply oA|apply pN|apply o1|refine bS ?_ Bf.out|refine bS ?_ Bg.out|refine bS ?_ Bj.out)|exact HB.out))));have n1_:=Am (bX Ba.out hb);have n2_:=Am (bX Bb.out hb);have n3_:=Am (bX Bc.out hb);have n4_:=Am (bP (by repeat (first|(with_reducible first|exact HB.out|apply oA|apply pN|apply o1|refine bS ?_ Bf.out|refine bS ?_ Bg.out|refine bS ?_ Bj.out)|exact HB.out)) hb);clear Ba Bb Bc HB;revert n0_ n1_ n2_ n3_ n4_;intro BE Ba Bb Bc HB;clear hb ho7)))
 go_loopg [5,6,7] k (fun kq v5 v6 v7 w'=>∃ (x5_1:List (S40)) (x6_1:Bool) (x7_1:Int),v6=.bool x6_1∧v7=.int .i64 x7_1∧Aside0 (spec_l11Add.l0 kq x5_1 x6_1 x7_1 l0_0 a0_1 a1_0 a1_1 a1_2 a1_3=some (r1,r2))∧Aside0 (kq≤k)∧Aside0 (Kd.R k40 40 w' w.heap.size (fun k_=>k_≠Bd) v5 x5_1)∧Aside0 (w'.heap[Be]?=some (.cells #[(.slice A0_0 l0_0.length c0_0),.int .i64 a0_1] 25 (0,0)))∧Aside0 (w'.heap[Bd]?=some (.cells #[.int .i64 a1_0,.int .i64 a1_1,.int .i64 a1_2,.bool a1_3] 40 (0,0)))∧Aside0 (w'.heap[Bh]?=some (.cells #[(.slice none 0 0),.int .i64 0] 25 (0,0)))∧Aside0 (Below w.heap.size w w'))
 case atStart=>exact ⟨(y152),(false),(0),(by first|rfl|(simp;done)|(simp [*];done)),(by first|rfl|(simp;done)|(simp [*];done)),H',⟨Nat.le_refl _⟩,⟨by (with_reducible repeat (first|apply rA|apply rN|apply rD));exact rM BE.out (fun _ hk=>hk.2)⟩,⟨by (with_reducible repeat (first|refine bN ?_ _|refine bD ?_|refine bA ?_ _));exact Ba.out⟩,⟨by (with_reducible repeat (first|refine bN ?_ _|refine bD ?_|refine bA ?_ _));exact Bb.out⟩,⟨by (with_reducible repeat (first|refine bN ?_ _|refine bD ?_|refine bA ?_ _));exact Bc.out⟩,⟨by repeat (first|(with_reducible first|exact HB.out|apply oA|apply pN|apply o1|refine bS ?_ Bf.out|refine bS ?_ Bg.out|refine bS ?_ Bj.out)|exact HB.out)⟩⟩
 case round =>
  clear H'
  try clear p2
  try clear c4
  obtain ⟨x5_1,x6_1,x7_1,rfl,rfl,HA,HK1,Bi,Ba,Bb,Bc,HB⟩:=hrel
  cases gk with
 |zero=>exact absurd HA.out (by simp [spec_l11Add.l0])
 |succ k1 =>
   have H:=HA.out
   clear HA
   simp only [spec_l11Add.l0] at H
   by_cases c8:x7_1<(l0_0.length:Int)
   rotate_left
   ·rw [if_neg c8] at H
    have c8b0:decide (x7_1<(l0_0.length:Int))=false:=decide_eq_false c8
    clear c8
    by_cases c35:x6_1=true
    ·subst c35
     have H1:(some (x5_1,a0_1))=some (r1,r2):=by rw [if_pos rfl] at H;exact H
     clear H
     have H:=H1
     clear H1
     simp only [Option.some.injEq,Prod.mk.injEq] at H
     obtain ⟨rfl,rfl⟩:=H
     have DN:=Bm.out
     have DO:=Bn.out
     have DP:=Bo.out
     have DQ:=Bk.out
     have Dd:=cz0 Ba.out
     have De:=cz1 Ba.out
     have Df:=bF Ba.out 0
     have Dg:=bF Ba.out 1
     obtain ⟨Ao39,co39,eo39⟩:=Kd.R_slice Bi.out
     subst eo39
     have DR:=Bq.out
     have DS:=Bp.out
     have Dh:=cz0 Bc.out
     have Di:=cz1 Bc.out
     have Dj:=bF Bc.out 0
     have Dk:=bF Bc.out 1
     go_wp2
     repeat (go_quiet (fail);try go_wp2)
     refine bodyPost_ret (results_cell_row rfl _ _ Bh 25 #[.slice Ao39 x5_1.length co39,.int .i64 a0_1] (0,0) _ rfl (by (with_reducible repeat (first|refine bN ?_ _|refine bD ?_|refine bA ?_ _));refine blk_put (cs:=#[.slice Ao39 x5_1.length co39,.int .i64 0]) ?_ 1 _ rfl;(with_reducible repeat (first|refine bN ?_ _|refine bD ?_|refine bA ?_ _));refine blk_put (cs:=#[.slice none 0 0,.int .i64 0]) ?_ 0 _ rfl;(with_reducible repeat (first|refine bN ?_ _|refine bD ?_|refine bA ?_ _|refine blk_far ?_ Bk.out _));exact Bc.out) Try.underlying25 rfl (by kernel_rfl)) rfl ?_
     exact ⟨_,by first|rfl|(simp [errW_none,errW_some] <;> rfl)|(simp [*,errW_none,errW_some] <;> rfl),by (with_reducible repeat (first|apply rA|apply rN|apply rD));exact rM (rF (p:=⟨Bh,1,none⟩) (rF (p:=⟨Bh,0,none⟩) (rF (p:=⟨Be,0,none⟩) (rT (rT Bi.out Ba.out (by decide)) Bc.out (by decide)) (fun _ hk=>hk.1.2) (.slice Ao39 x5_1.length co39)) (fun _ hk=>hk.2) (.slice Ao39 x5_1.length co39)) (fun _ hk=>hk.2) (.int .i64 a0_1)) (fun _ hk=>trivial),by repeat (first|(with_reducible first|exact HB.out|apply oA|apply pN|apply o1|refine bS ?_ Bf.out|refine bS ?_ Bg.out|refine bS ?_ Bj.out)|exact HB.out)⟩
    replace c35:=Bool.eq_false_iff.mpr c35
    subst c35
    have H1:(if x5_1.length<4398046511104 then (some ((x5_1 ++ [(⟨a1_0,a1_1,a1_2,a1_3⟩:S40)]),a0_1)) else (none))=some (r1,r2):=by rw [if_neg (show ¬ (false=true) by decide)] at H;exact H
    clear H
    have H:=H1
    clear H1
    by_cases c42:x5_1.length<4398046511104
    rotate_left
    ·rw [if_neg c42] at H
     exact absurd H (by simp)

    rw [if_pos c42] at H
    have LMc42:=Am c42
    clear c42
    obtain ⟨y171,hy171⟩:∃ y_:List (S40),y_=(x5_1 ++ [(⟨a1_0,a1_1,a1_2,a1_3⟩:S40)]):=⟨_,rfl⟩
    replace H:(some (y171,a0_1))=some (r1,r2):=by first|(rw [hy171];with_reducible exact H)|(have H2_:=(Option.bind_some _ _).symm.trans H;rw [hy171];with_reducible exact H2_)|(have H2_:=(Option.bind_some _ _).symm.trans H;with_reducible exact H2_)|with_reducible exact H|(rw [hy171];exact H)|exact H
    have Ny171:=Am hy171
    clear hy171
    simp only [Option.some.injEq,Prod.mk.injEq] at H
    obtain ⟨rfl,rfl⟩:=H
    have DT:=Bm.out
    have DU:=Bn.out
    have DV:=Bo.out
    have DW:=Bk.out
    have Dl:=cz0 Ba.out
    have Dm:=cz1 Ba.out
    have Dn:=bF Ba.out 0
    have Do:=bF Ba.out 1
    have DX:=Bp.out
    have DY:=Bq.out
    have Dp:=cz0 Bb.out
    have Dq:=cz1 Bb.out
    have Dr:=cz2 Bb.out
    have Ds:=cz3 Bb.out
    have Dt:=bF Bb.out 0
    have Du:=bF Bb.out 1
    have Dv:=bF Bb.out 2
    have Dw:=bF Bb.out 3
    go_wp2_with (first|((with_reducible refine gate_builtin (b:=.append) (xs:=#[.tmp 43,.tmp 45]) rfl ?_);at_builtin;refine Kd.R_append k40 (w0:=w) w.heap.size rfl (.tmp 43) (.tmp 45) 23 40 (.agg #[(.int .i64 0),(.int .i64 0),(.int .i64 0),(.bool false)]) 32 rfl Try.underlying23 info40 rfl (by decide) (by omega) u5 x5_1 (⟨a1_0,a1_1,a1_2,a1_3⟩:S40) [.int .i64 a1_0,.int .i64 a1_1,.int .i64 a1_2,.bool a1_3] (fun k_=>k_≠Bd) (fun _=>False) rfl rfl ?aP (fun _ hk=>hk.elim) ?aF ?aO ?aB ?aS ?aL ?_;(case aP=>exact k40_mkM _ _ _ (⟨a1_0,a1_1,a1_2,a1_3⟩:S40));(case aB=>exact (by repeat (first|(with_reducible first|exact HB.out|apply oA|apply pN|apply o1|refine bS ?_ Bf.out|refine bS ?_ Bg.out|refine bS ?_ Bj.out)|exact HB.out)));(case aF=>exact (fun k_ hk=>Kd.freshB (g:=Bd) (o:=.cells #[.int .i64 a1_0,.int .i64 a1_1,.int .i64 a1_2,.bool a1_3] 40 (0,0)) (bL Bb.out) k_ hk));(case aO=>exact (rL Bi.out));(case aS=>exact (bZ (by repeat (first|(with_reducible first|exact HB.out|apply oA|apply pN|apply o1|refine bS ?_ Bf.out|refine bS ?_ Bg.out|refine bS ?_ Bj.out)|exact HB.out))));(case aL=>have:=LMc42.out;omega);intro v172 w48 ho hb hg hat;rw [← Ny171.out] at ho;have n0_:=Am (blk_grown (g:=Be) (o:=.cells #[.slice A0_0 l0_0.length c0_0,.int .i64 a0_1] 25 (0,0)) (bL Ba.out) hg (Kd.R_ne Bi.out Ba.out (by decide)));have n1_:=Am (blk_grown (g:=Bd) (o:=.cells #[.int .i64 a1_0,.int .i64 a1_1,.int .i64 a1_2,.bool a1_3] 40 (0,0)) (bL Bb.out) hg (Kd.R_away Bi.out (fun _ hk=>hk)));have n2_:=Am (blk_grown (g:=Bh) (o:=.cells #[.slice none 0 0,.int .i64 0] 25 (0,0)) (bL Bc.out) hg (Kd.R_ne Bi.out Bc.out (by decide)));have n3_:=Am (hb);have n4_:=Am (ho);clear Ba Bb Bc HB Bi;revert n0_ n1_ n2_ n3_ n4_;intro Ba Bb Bc HB Br;clear ho hb hg hat;obtain ⟨Ao49,co49,eo49⟩:=Kd.R_slice Br.out;subst eo49;have Bw:=cz0 Ba.out;have Bx:=cz1 Ba.out;have By:=bF Ba.out 0;have Bz:=bF Ba.out 1;have BA:=cz0 Bc.out;have BB:=cz1 Bc.out;have BC:=bF Bc.out 0;have BD:=bF Bc.out 1))
    repeat (go_quiet (first|((with_reducible refine gate_builtin (b:=.append) (xs:=#[.tmp 43,.tmp 45]) rfl ?_);at_builtin;refine Kd.R_append k40 (w0:=w) w.heap.size rfl (.tmp 43) (.tmp 45) 23 40 (.agg #[(.int .i64 0),(.int .i64 0),(.int .i64 0),(.bool false)]) 32 rfl Try.underlying23 info40 rfl (by decide) (by omega) u5 x5_1 (⟨a1_0,a1_1,a1_2,a1_3⟩:S40) [.int .i64 a1_0,.int .i64 a1_1,.int .i64 a1_2,.bool a1_3] (fun k_=>k_≠Bd) (fun _=>False) rfl rfl ?aP (fun _ hk=>hk.elim) ?aF ?aO ?aB ?aS ?aL ?_;(case aP=>exact k40_mkM _ _ _ (⟨a1_0,a1_1,a1_2,a1_3⟩:S40));(case aB=>exact (by repeat (first|(with_reducible first|exact HB.out|apply oA|apply pN|apply o1|refine bS ?_ Bf.out|refine bS ?_ Bg.out|refine bS ?_ Bj.out)|exact HB.out)));(case aF=>exact (fun k_ hk=>Kd.freshB (g:=Bd) (o:=.cells #[.int .i64 a1_0,.int .i64 a1_1,.int .i64 a1_2,.bool a1_3] 40 (0,0)) (bL Bb.out) k_ hk));(case aO=>exact (rL Bi.out));(case aS=>exact (bZ (by repeat (first|(with_reducible first|exact HB.out|apply oA|apply pN|apply o1|refine bS ?_ Bf.out|refine bS ?_ Bg.out|refine bS ?_ Bj.out)|exact HB.out))));(case aL=>have:=LMc42.out;omega);intro v172 w48 ho hb hg hat;rw [← Ny171.out] at ho;have n0_:=Am (blk_grown (g:=Be) (o:=.cells #[.slice A0_0 l0_0.length c0_0,.int .i64 a0_1] 25 (0,0)) (bL Ba.out) hg (Kd.R_ne Bi.out Ba.out (by decide)));have n1_:=Am (blk_grown (g:=Bd) (o:=.cells #[.int .i64 a1_0,.int .i64 a1_1,.int .i64 a1_2,.bool a1_3] 40 (0,0)) (bL Bb.out) hg (Kd.R_away Bi.out (fun _ hk=>hk)));have n2_:=Am (blk_grown (g:=Bh) (o:=.cells #[.slice none 0 0,.int .i64 0] 25 (0,0)) (bL Bc.out) hg (Kd.R_ne Bi.out Bc.out (by decide)));have n3_:=Am (hb);have n4_:=Am (ho);clear Ba Bb Bc HB Bi;revert n0_ n1_ n2_ n3_ n4_;intro Ba Bb Bc HB Br;clear ho hb hg hat;obtain ⟨Ao49,co49,eo49⟩:=Kd.R_slice Br.out;subst eo49;have Bw:=cz0 Ba.out;have Bx:=cz1 Ba.out;have By:=bF Ba.out 0;have Bz:=bF Ba.out 1;have BA:=cz0 Bc.out;have BB:=cz1 Bc.out;have BC:=bF Bc.out 0;have BD:=bF Bc.out 1));try go_wp2_with (first|((with_reducible refine gate_builtin (b:=.append) (xs:=#[.tmp 43,.tmp 45]) rfl ?_);at_builtin;refine Kd.R_append k40 (w0:=w) w.heap.size rfl (.tmp 43) (.tmp 45) 23 40 (.agg #[(.int .i64 0),(.int .i64 0),(.int .i64 0),(.bool false)]) 32 rfl Try.underlying23 info40 rfl (by decide) (by omega) u5 x5_1 (⟨a1_0,a1_1,a1_2,a1_3⟩:S40) [.int .i64 a1_0,.int .i64 a1_1,.int .i64 a1_2,.bool a1_3] (fun k_=>k_≠Bd) (fun _=>False) rfl rfl ?aP (fun _ hk=>hk.elim) ?aF ?aO ?aB ?aS ?aL ?_;(case aP=>exact k40_mkM _ _ _ (⟨a1_0,a1_1,a1_2,a1_3⟩:S40));(case aB=>exact (by repeat (first|(with_reducible first|exact HB.out|apply oA|apply pN|apply o1|refine bS ?_ Bf.out|refine bS ?_ Bg.out|refine bS ?_ Bj.out)|exact HB.out)));(case aF=>exact (fun k_ hk=>Kd.freshB (g:=Bd) (o:=.cells #[.int .i64 a1_0,.int .i64 a1_1,.int .i64 a1_2,.bool a1_3] 40 (0,0)) (bL Bb.out) k_ hk));(case aO=>exact (rL Bi.out));(case aS=>exact (bZ (by repeat (first|(with_reducible first|exact HB.out|apply oA|apply pN|apply o1|refine bS ?_ Bf.out|refine bS ?_ Bg.out|refine bS ?_ Bj.out)|exact HB.out))));(case aL=>have:=LMc42.out;omega);intro v172 w48 ho hb hg hat;rw [← Ny171.out] at ho;have n0_:=Am (blk_grown (g:=Be) (o:=.cells #[.slice A0_0 l0_0.length c0_0,.int .i64 a0_1] 25 (0,0)) (bL Ba.out) hg (Kd.R_ne Bi.out Ba.out (by decide)));have n1_:=Am (blk_grown (g:=Bd) (o:=.cells #[.int .i64 a1_0,.int .i64 a1_1,.int .i64 a1_2,.bool a1_3] 40 (0,0)) (bL Bb.out) hg (Kd.R_away Bi.out (fun _ hk=>hk)));have n2_:=Am (blk_grown (g:=Bh) (o:=.cells #[.slice none 0 0,.int .i64 0] 25 (0,0)) (bL Bc.out) hg (Kd.R_ne Bi.out Bc.out (by decide)));have n3_:=Am (hb);have n4_:=Am (ho);clear Ba Bb Bc HB Bi;revert n0_ n1_ n2_ n3_ n4_;intro Ba Bb Bc HB Br;clear ho hb hg hat;obtain ⟨Ao49,co49,eo49⟩:=Kd.R_slice Br.out;subst eo49;have Bw:=cz0 Ba.out;have Bx:=cz1 Ba.out;have By:=bF Ba.out 0;have Bz:=bF Ba.out 1;have BA:=cz0 Bc.out;have BB:=cz1 Bc.out;have BC:=bF Bc.out 0;have BD:=bF Bc.out 1)))
    refine bodyPost_ret (results_cell_row rfl _ _ Bh 25 #[.slice Ao49 y171.length co49,.int .i64 a0_1] (0,0) _ rfl (by (with_reducible repeat (first|refine bN ?_ _|refine bD ?_|refine bA ?_ _));refine blk_put (cs:=#[.slice Ao49 y171.length co49,.int .i64 0]) ?_ 1 _ rfl;(with_reducible repeat (first|refine bN ?_ _|refine bD ?_|refine bA ?_ _));refine blk_put (cs:=#[.slice none 0 0,.int .i64 0]) ?_ 0 _ rfl;(with_reducible repeat (first|refine bN ?_ _|refine bD ?_|refine bA ?_ _|refine blk_far ?_ Bk.out _));exact Bc.out) Try.underlying25 rfl (by kernel_rfl)) rfl ?_
    exact ⟨_,by first|rfl|(simp [errW_none,errW_some] <;> rfl)|(simp [*,errW_none,errW_some] <;> rfl),by (with_reducible repeat (first|apply rA|apply rN|apply rD));exact rM (rF (p:=⟨Bh,1,none⟩) (rF (p:=⟨Bh,0,none⟩) (rF (p:=⟨Be,0,none⟩) (rT (rT Br.out Ba.out (by decide)) Bc.out (by decide)) (fun _ hk=>hk.1.2) (.slice Ao49 y171.length co49)) (fun _ hk=>hk.2) (.slice Ao49 y171.length co49)) (fun _ hk=>hk.2) (.int .i64 a0_1)) (fun _ hk=>trivial),by repeat (first|(with_reducible first|exact HB.out|apply oA|apply pN|apply o1|refine bS ?_ Bf.out|refine bS ?_ Bg.out|refine bS ?_ Bj.out)|exact HB.out)⟩
   rw [if_pos c8] at H
   have c8b0:decide (x7_1<(l0_0.length:Int))=true:=decide_eq_true c8
   clear c8
   by_cases c9:x6_1=true
   ·subst c9
    have H1:(if 0≤x7_1 then (if x5_1.length<4398046511104 then (spec_l11Add.l0 k1 (x5_1 ++ [(⟨(rd_T40 l0_0 x7_1).f0,(rd_T40 l0_0 x7_1).f1,(rd_T40 l0_0 x7_1).f2,(rd_T40 l0_0 x7_1).f3⟩:S40)]) true (wrap64 (x7_1 + 1)) l0_0 a0_1 a1_0 a1_1 a1_2 a1_3) else (none)) else (none))=some (r1,r2):=by rw [if_pos rfl] at H;exact H
    clear H
    have H:=H1
    clear H1
    by_cases c10:0≤x7_1
    rotate_left
    ·rw [if_neg c10] at H
     exact absurd H (by simp)
    rw [if_pos c10] at H
    have c10b0:decide (0≤x7_1)=true:=decide_eq_true c10
    clear c10
    by_cases c11:x5_1.length<4398046511104
    rotate_left
    ·rw [if_neg c11] at H
     exact absurd H (by simp)
    rw [if_pos c11] at H
    have LMc11:=Am c11
    clear c11
    obtain ⟨y156,hy156⟩:∃ y_:List (S40),y_=(x5_1 ++ [(⟨(rd_T40 l0_0 x7_1).f0,(rd_T40 l0_0 x7_1).f1,(rd_T40 l0_0 x7_1).f2,(rd_T40 l0_0 x7_1).f3⟩:S40)]):=⟨_,rfl⟩
    replace H:(spec_l11Add.l0 k1 y156 true (wrap64 (x7_1 + 1)) l0_0 a0_1 a1_0 a1_1 a1_2 a1_3)=some (r1,r2):=by first|(rw [hy156];with_reducible exact H)|(have H2_:=(Option.bind_some _ _).symm.trans H;rw [hy156];with_reducible exact H2_)|(have H2_:=(Option.bind_some _ _).symm.trans H;with_reducible exact H2_)|with_reducible exact H|(rw [hy156];exact H)|exact H
    have Ny156:=Am hy156
    clear hy156
    have H':=Am H
    clear H
    have Dx:=Bm.out
    have Dy:=Bn.out
    have Dz:=Bo.out
    have DA:=Bk.out
    have BL:=cz0 Ba.out
    have BM:=cz1 Ba.out
    have BN:=bF Ba.out 0
    have BO:=bF Ba.out 1
    have p155:0≤(x7_1:Int):=of_decide_eq_true (by first|(with_reducible assumption)|assumption)
    have q155:x7_1<(l0_0.length:Int):=of_decide_eq_true (by first|(with_reducible assumption)|assumption)
    obtain ⟨ad155,e155,hx155_0,hx155_1,hx155_2,hx155_3⟩:=at_T40 HR0_0.out x7_1 p155 q155
    cases e155
    replace hx155_0:=(bW HB hx155_0:)
    replace hx155_1:=(bW HB hx155_1:)
    replace hx155_2:=(bW HB hx155_2:)
    replace hx155_3:=(bW HB hx155_3:)
    replace p155:=eq_true p155
    replace q155:=eq_true q155
    go_wp2_with (first|((with_reducible refine gate_builtin (b:=.append) (xs:=#[.tmp 33,.tmp 39]) rfl ?_);at_builtin;refine Kd.R_append k40 (w0:=w) w.heap.size rfl (.tmp 33) (.tmp 39) 23 40 (.agg #[(.int .i64 0),(.int .i64 0),(.int .i64 0),(.bool false)]) 32 rfl Try.underlying23 info40 rfl (by decide) (by omega) u5 x5_1 (⟨(rd_T40 l0_0 x7_1).f0,(rd_T40 l0_0 x7_1).f1,(rd_T40 l0_0 x7_1).f2,(rd_T40 l0_0 x7_1).f3⟩:S40) [.int .i64 ((rd_T40 l0_0 x7_1).f0),.int .i64 ((rd_T40 l0_0 x7_1).f1),.int .i64 ((rd_T40 l0_0 x7_1).f2),.bool ((rd_T40 l0_0 x7_1).f3)] (fun k_=>k_≠Bd) (fun _=>False) rfl rfl ?aP (fun _ hk=>hk.elim) ?aF ?aO ?aB ?aS ?aL ?_;(case aP=>exact k40_mkM _ _ _ (⟨(rd_T40 l0_0 x7_1).f0,(rd_T40 l0_0 x7_1).f1,(rd_T40 l0_0 x7_1).f2,(rd_T40 l0_0 x7_1).f3⟩:S40));(case aB=>exact (by repeat (first|(with_reducible first|exact HB.out|apply oA|apply pN|apply o1|refine bS ?_ Bf.out|refine bS ?_ Bg.out|refine bS ?_ Bj.out)|exact HB.out)));(case aF=>exact (fun k_ hk=>Kd.freshB (g:=Bd) (o:=.cells #[.int .i64 a1_0,.int .i64 a1_1,.int .i64 a1_2,.bool a1_3] 40 (0,0)) (bL Bb.out) k_ hk));(case aO=>exact (rL Bi.out));(case aS=>exact (bZ (by repeat (first|(with_reducible first|exact HB.out|apply oA|apply pN|apply o1|refine bS ?_ Bf.out|refine bS ?_ Bg.out|refine bS ?_ Bj.out)|exact HB.out))));(case aL=>have:=LMc11.out;omega);intro v157 w15 ho hb hg hat;rw [← Ny156.out] at ho;have n0_:=Am (blk_grown (g:=Be) (o:=.cells #[.slice (some ad155) l0_0.length c0_0,.int .i64 a0_1] 25 (0,0)) (bL Ba.out) hg (Kd.R_ne Bi.out Ba.out (by decide)));have n1_:=Am (blk_grown (g:=Bd) (o:=.cells #[.int .i64 a1_0,.int .i64 a1_1,.int .i64 a1_2,.bool a1_3] 40 (0,0)) (bL Bb.out) hg (Kd.R_away Bi.out (fun _ hk=>hk)));have n2_:=Am (blk_grown (g:=Bh) (o:=.cells #[.slice none 0 0,.int .i64 0] 25 (0,0)) (bL Bc.out) hg (Kd.R_ne Bi.out Bc.out (by decide)));have n3_:=Am (hb);have n4_:=Am (ho);clear Ba Bb Bc HB Bi;revert n0_ n1_ n2_ n3_ n4_;intro Ba Bb Bc HB BF;clear ho hb hg hat))
    repeat (go_quiet (first|((with_reducible refine gate_builtin (b:=.append) (xs:=#[.tmp 33,.tmp 39]) rfl ?_);at_builtin;refine Kd.R_append k40 (w0:=w) w.heap.size rfl (.tmp 33) (.tmp 39) 23 40 (.agg #[(.int .i64 0),(.int .i64 0),(.int .i64 0),(.bool false)]) 32 rfl Try.underlying23 info40 rfl (by decide) (by omega) u5 x5_1 (⟨(rd_T40 l0_0 x7_1).f0,(rd_T40 l0_0 x7_1).f1,(rd_T40 l0_0 x7_1).f2,(rd_T40 l0_0 x7_1).f3⟩:S40) [.int .i64 ((rd_T40 l0_0 x7_1).f0),.int .i64 ((rd_T40 l0_0 x7_1).f1),.int .i64 ((rd_T40 l0_0 x7_1).f2),.bool ((rd_T40 l0_0 x7_1).f3)] (fun k_=>k_≠Bd) (fun _=>False) rfl rfl ?aP (fun _ hk=>hk.elim) ?aF ?aO ?aB ?aS ?aL ?_;(case aP=>exact k40_mkM _ _ _ (⟨(rd_T40 l0_0 x7_1).f0,(rd_T40 l0_0 x7_1).f1,(rd_T40 l0_0 x7_1).f2,(rd_T40 l0_0 x7_1).f3⟩:S40));(case aB=>exact (by repeat (first|(with_reducible first|exact HB.out|apply oA|apply pN|apply o1|refine bS ?_ Bf.out|refine bS ?_ Bg.out|refine bS ?_ Bj.out)|exact HB.out)));(case aF=>exact (fun k_ hk=>Kd.freshB (g:=Bd) (o:=.cells #[.int .i64 a1_0,.int .i64 a1_1,.int .i64 a1_2,.bool a1_3] 40 (0,0)) (bL Bb.out) k_ hk));(case aO=>exact (rL Bi.out));(case aS=>exact (bZ (by repeat (first|(with_reducible first|exact HB.out|apply oA|apply pN|apply o1|refine bS ?_ Bf.out|refine bS ?_ Bg.out|refine bS ?_ Bj.out)|exact HB.out))));(case aL=>have:=LMc11.out;omega);intro v157 w15 ho hb hg hat;rw [← Ny156.out] at ho;have n0_:=Am (blk_grown (g:=Be) (o:=.cells #[.slice (some ad155) l0_0.length c0_0,.int .i64 a0_1] 25 (0,0)) (bL Ba.out) hg (Kd.R_ne Bi.out Ba.out (by decide)));have n1_:=Am (blk_grown (g:=Bd) (o:=.cells #[.int .i64 a1_0,.int .i64 a1_1,.int .i64 a1_2,.bool a1_3] 40 (0,0)) (bL Bb.out) hg (Kd.R_away Bi.out (fun _ hk=>hk)));have n2_:=Am (blk_grown (g:=Bh) (o:=.cells #[.slice none 0 0,.int .i64 0] 25 (0,0)) (bL Bc.out) hg (Kd.R_ne Bi.out Bc.out (by decide)));have n3_:=Am (hb);have n4_:=Am (ho);clear Ba Bb Bc HB Bi;revert n0_ n1_ n2_ n3_ n4_;intro Ba Bb Bc HB BF;clear ho hb hg hat));try go_wp2_with (first|((with_reducible refine gate_builtin (b:=.append) (xs:=#[.tmp 33,.tmp 39]) rfl ?_);at_builtin;refine Kd.R_append k40 (w0:=w) w.heap.size rfl (.tmp 33) (.tmp 39) 23 40 (.agg #[(.int .i64 0),(.int .i64 0),(.int .i64 0),(.bool false)]) 32 rfl Try.underlying23 info40 rfl (by decide) (by omega) u5 x5_1 (⟨(rd_T40 l0_0 x7_1).f0,(rd_T40 l0_0 x7_1).f1,(rd_T40 l0_0 x7_1).f2,(rd_T40 l0_0 x7_1).f3⟩:S40) [.int .i64 ((rd_T40 l0_0 x7_1).f0),.int .i64 ((rd_T40 l0_0 x7_1).f1),.int .i64 ((rd_T40 l0_0 x7_1).f2),.bool ((rd_T40 l0_0 x7_1).f3)] (fun k_=>k_≠Bd) (fun _=>False) rfl rfl ?aP (fun _ hk=>hk.elim) ?aF ?aO ?aB ?aS ?aL ?_;(case aP=>exact k40_mkM _ _ _ (⟨(rd_T40 l0_0 x7_1).f0,(rd_T40 l0_0 x7_1).f1,(rd_T40 l0_0 x7_1).f2,(rd_T40 l0_0 x7_1).f3⟩:S40));(case aB=>exact (by repeat (first|(with_reducible first|exact HB.out|apply oA|apply pN|apply o1|refine bS ?_ Bf.out|refine bS ?_ Bg.out|refine bS ?_ Bj.out)|exact HB.out)));(case aF=>exact (fun k_ hk=>Kd.freshB (g:=Bd) (o:=.cells #[.int .i64 a1_0,.int .i64 a1_1,.int .i64 a1_2,.bool a1_3] 40 (0,0)) (bL Bb.out) k_ hk));(case aO=>exact (rL Bi.out));(case aS=>exact (bZ (by repeat (first|(with_reducible first|exact HB.out|apply oA|apply pN|apply o1|refine bS ?_ Bf.out|refine bS ?_ Bg.out|refine bS ?_ Bj.out)|exact HB.out))));(case aL=>have:=LMc11.out;omega);intro v157 w15 ho hb hg hat;rw [← Ny156.out] at ho;have n0_:=Am (blk_grown (g:=Be) (o:=.cells #[.slice (some ad155) l0_0.length c0_0,.int .i64 a0_1] 25 (0,0)) (bL Ba.out) hg (Kd.R_ne Bi.out Ba.out (by decide)));have n1_:=Am (blk_grown (g:=Bd) (o:=.cells #[.int .i64 a1_0,.int .i64 a1_1,.int .i64 a1_2,.bool a1_3] 40 (0,0)) (bL Bb.out) hg (Kd.R_away Bi.out (fun _ hk=>hk)));have n2_:=Am (blk_grown (g:=Bh) (o:=.cells #[.slice none 0 0,.int .i64 0] 25 (0,0)) (bL Bc.out) hg (Kd.R_ne Bi.out Bc.out (by decide)));have n3_:=Am (hb);have n4_:=Am (ho);clear Ba Bb Bc HB Bi;revert n0_ n1_ n2_ n3_ n4_;intro Ba Bb Bc HB BF;clear ho hb hg hat)))
    go_roundg k1
    case measure=>have:=HK1.out;omega
    case rel=>exact ⟨(y156),(true),(wrap64 (x7_1 + 1)),(by first|rfl|(simp;done)|(simp [*];done)),(by first|rfl|(simp;done)|(simp [*];done)),H',⟨by have:=HK1.out;omega⟩,⟨by (with_reducible repeat (first|apply rA|apply rN|apply rD));exact BF.out⟩,⟨by (with_reducible repeat (first|refine bN ?_ _|refine bD ?_|refine bA ?_ _));exact Ba.out⟩,⟨by (with_reducible repeat (first|refine bN ?_ _|refine bD ?_|refine bA ?_ _));exact Bb.out⟩,⟨by (with_reducible repeat (first|refine bN ?_ _|refine bD ?_|refine bA ?_ _));exact Bc.out⟩,⟨by repeat (first|(with_reducible first|exact HB.out|apply oA|apply pN|apply o1|refine bS ?_ Bf.out|refine bS ?_ Bg.out|refine bS ?_ Bj.out)|exact HB.out)⟩⟩
   replace c9:=Bool.eq_false_iff.mpr c9
   subst c9
   have H1:(if 0≤x7_1 then (if ((rd_T40 l0_0 x7_1).f0) > a1_0 then (if x5_1.length<4398046511104 then ((some (x5_1 ++ [(⟨a1_0,a1_1,a1_2,a1_3⟩:S40)]:List (S40))).bind fun y160=>(if y160.length<4398046511104 then (spec_l11Add.l0 k1 (y160 ++ [(⟨(rd_T40 l0_0 x7_1).f0,(rd_T40 l0_0 x7_1).f1,(rd_T40 l0_0 x7_1).f2,(rd_T40 l0_0 x7_1).f3⟩:S40)]) true (wrap64 (x7_1 + 1)) l0_0 a0_1 a1_0 a1_1 a1_2 a1_3) else (none))) else (none)) else (if x5_1.length<4398046511104 then (spec_l11Add.l0 k1 (x5_1 ++ [(⟨(rd_T40 l0_0 x7_1).f0,(rd_T40 l0_0 x7_1).f1,(rd_T40 l0_0 x7_1).f2,(rd_T40 l0_0 x7_1).f3⟩:S40)]) false (wrap64 (x7_1 + 1)) l0_0 a0_1 a1_0 a1_1 a1_2 a1_3) else (none))) else (none))=some (r1,r2):=by rw [if_neg (show ¬ (false=true) by decide)] at H;exact H
   clear H
   have H:=H1
   clear H1
   by_cases c16:0≤x7_1
   rotate_left
   ·rw [if_neg c16] at H
    exact absurd H (by simp)
   rw [if_pos c16] at H
   have c16b0:decide (0≤x7_1)=true:=decide_eq_true c16
   clear c16
   by_cases c17:((rd_T40 l0_0 x7_1).f0) > a1_0
   rotate_left
   ·rw [if_neg c17] at H
    have c17b0:decide (a1_0<((rd_T40 l0_0 x7_1).f0))=false:=decide_eq_false c17
    clear c17
    by_cases c28:x5_1.length<4398046511104
    rotate_left
    ·rw [if_neg c28] at H
     exact absurd H (by simp)
    rw [if_pos c28] at H
    have LMc28:=Am c28
    clear c28
    obtain ⟨y168,hy168⟩:∃ y_:List (S40),y_=(x5_1 ++ [(⟨(rd_T40 l0_0 x7_1).f0,(rd_T40 l0_0 x7_1).f1,(rd_T40 l0_0 x7_1).f2,(rd_T40 l0_0 x7_1).f3⟩:S40)]):=⟨_,rfl⟩
    replace H:(spec_l11Add.l0 k1 y168 false (wrap64 (x7_1 + 1)) l0_0 a0_1 a1_0 a1_1 a1_2 a1_3)=some (r1,r2):=by first|(rw [hy168];with_reducible exact H)|(have H2_:=(Option.bind_some _ _).symm.trans H;rw [hy168];with_reducible exact H2_)|(have H2_:=(Option.bind_some _ _).symm.trans H;with_reducible exact H2_)|with_reducible exact H|(rw [hy168];exact H)|exact H
    have Ny168:=Am hy168
    clear hy168
    have H':=Am H
    clear H
    have DH:=Bm.out
    have DI:=Bn.out
    have DJ:=Bo.out
    have DK:=Bk.out
    have B1:=cz0 Ba.out
    have B2:=cz1 Ba.out
    have B3:=bF Ba.out 0
    have B4:=bF Ba.out 1
    have p159:0≤(x7_1:Int):=of_decide_eq_true (by first|(with_reducible assumption)|assumption)
    have q159:x7_1<(l0_0.length:Int):=of_decide_eq_true (by first|(with_reducible assumption)|assumption)
    obtain ⟨ad159,e159,hx159_0,hx159_1,hx159_2,hx159_3⟩:=at_T40 HR0_0.out x7_1 p159 q159
    cases e159
    replace hx159_0:=(bW HB hx159_0:)
    replace hx159_1:=(bW HB hx159_1:)
    replace hx159_2:=(bW HB hx159_2:)
    replace hx159_3:=(bW HB hx159_3:)
    replace p159:=eq_true p159
    replace q159:=eq_true q159
    have DL:=Bp.out
    have DM:=Bq.out
    have B5:=cz0 Bb.out
    have B6:=cz1 Bb.out
    have B7:=cz2 Bb.out
    have B8:=cz3 Bb.out
    have B9:=bF Bb.out 0
    have Da:=bF Bb.out 1
    have Db:=bF Bb.out 2
    have Dc:=bF Bb.out 3
    have p167:0≤(x7_1:Int):=of_decide_eq_true (by first|(with_reducible assumption)|assumption)
    have q167:x7_1<(l0_0.length:Int):=of_decide_eq_true (by first|(with_reducible assumption)|assumption)
    obtain ⟨ad167,e167,hx167_0,hx167_1,hx167_2,hx167_3⟩:=at_T40 HR0_0.out x7_1 p167 q167
    obtain rfl:ad159=ad167:=(by injection e167)
    replace hx167_0:=(bW HB hx167_0:)
    replace hx167_1:=(bW HB hx167_1:)
    replace hx167_2:=(bW HB hx167_2:)
    replace hx167_3:=(bW HB hx167_3:)
    replace p167:=eq_true p167
    replace q167:=eq_true q167
    go_wp2_with (first|((with_reducible refine gate_builtin (b:=.append) (xs:=#[.tmp 33,.tmp 39]) rfl ?_);at_builtin;refine Kd.R_append k40 (w0:=w) w.heap.size rfl (.tmp 33) (.tmp 39) 23 40 (.agg #[(.int .i64 0),(.int .i64 0),(.int .i64 0),(.bool false)]) 32 rfl Try.underlying23 info40 rfl (by decide) (by omega) u5 x5_1 (⟨(rd_T40 l0_0 x7_1).f0,(rd_T40 l0_0 x7_1).f1,(rd_T40 l0_0 x7_1).f2,(rd_T40 l0_0 x7_1).f3⟩:S40) [.int .i64 ((rd_T40 l0_0 x7_1).f0),.int .i64 ((rd_T40 l0_0 x7_1).f1),.int .i64 ((rd_T40 l0_0 x7_1).f2),.bool ((rd_T40 l0_0 x7_1).f3)] (fun k_=>k_≠Bd) (fun _=>False) rfl rfl ?aP (fun _ hk=>hk.elim) ?aF ?aO ?aB ?aS ?aL ?_;(case aP=>exact k40_mkM _ _ _ (⟨(rd_T40 l0_0 x7_1).f0,(rd_T40 l0_0 x7_1).f1,(rd_T40 l0_0 x7_1).f2,(rd_T40 l0_0 x7_1).f3⟩:S40));(case aB=>exact (by repeat (first|(with_reducible first|exact HB.out|apply oA|apply pN|apply o1|refine bS ?_ Bf.out|refine bS ?_ Bg.out|refine bS ?_ Bj.out)|exact HB.out)));(case aF=>exact (fun k_ hk=>Kd.freshB (g:=Bd) (o:=.cells #[.int .i64 a1_0,.int .i64 a1_1,.int .i64 a1_2,.bool a1_3] 40 (0,0)) (bL Bb.out) k_ hk));(case aO=>exact (rL Bi.out));(case aS=>exact (bZ (by repeat (first|(with_reducible first|exact HB.out|apply oA|apply pN|apply o1|refine bS ?_ Bf.out|refine bS ?_ Bg.out|refine bS ?_ Bj.out)|exact HB.out))));(case aL=>have:=LMc28.out;omega);intro v169 w34 ho hb hg hat;rw [← Ny168.out] at ho;have n0_:=Am (blk_grown (g:=Be) (o:=.cells #[.slice (some ad159) l0_0.length c0_0,.int .i64 a0_1] 25 (0,0)) (bL Ba.out) hg (Kd.R_ne Bi.out Ba.out (by decide)));have n1_:=Am (blk_grown (g:=Bd) (o:=.cells #[.int .i64 a1_0,.int .i64 a1_1,.int .i64 a1_2,.bool a1_3] 40 (0,0)) (bL Bb.out) hg (Kd.R_away Bi.out (fun _ hk=>hk)));have n2_:=Am (blk_grown (g:=Bh) (o:=.cells #[.slice none 0 0,.int .i64 0] 25 (0,0)) (bL Bc.out) hg (Kd.R_ne Bi.out Bc.out (by decide)));have n3_:=Am (hb);have n4_:=Am (ho);clear Ba Bb Bc HB Bi;revert n0_ n1_ n2_ n3_ n4_;intro Ba Bb Bc HB BH;clear ho hb hg hat))
    repeat (go_quiet (first|((with_reducible refine gate_builtin (b:=.append) (xs:=#[.tmp 33,.tmp 39]) rfl ?_);at_builtin;refine Kd.R_append k40 (w0:=w) w.heap.size rfl (.tmp 33) (.tmp 39) 23 40 (.agg #[(.int .i64 0),(.int .i64 0),(.int .i64 0),(.bool false)]) 32 rfl Try.underlying23 info40 rfl (by decide) (by omega) u5 x5_1 (⟨(rd_T40 l0_0 x7_1).f0,(rd_T40 l0_0 x7_1).f1,(rd_T40 l0_0 x7_1).f2,(rd_T40 l0_0 x7_1).f3⟩:S40) [.int .i64 ((rd_T40 l0_0 x7_1).f0),.int .i64 ((rd_T40 l0_0 x7_1).f1),.int .i64 ((rd_T40 l0_0 x7_1).f2),.bool ((rd_T40 l0_0 x7_1).f3)] (fun k_=>k_≠Bd) (fun _=>False) rfl rfl ?aP (fun _ hk=>hk.elim) ?aF ?aO ?aB ?aS ?aL ?_;(case aP=>exact k40_mkM _ _ _ (⟨(rd_T40 l0_0 x7_1).f0,(rd_T40 l0_0 x7_1).f1,(rd_T40 l0_0 x7_1).f2,(rd_T40 l0_0 x7_1).f3⟩:S40));(case aB=>exact (by repeat (first|(with_reducible first|exact HB.out|apply oA|apply pN|apply o1|refine bS ?_ Bf.out|refine bS ?_ Bg.out|refine bS ?_ Bj.out)|exact HB.out)));(case aF=>exact (fun k_ hk=>Kd.freshB (g:=Bd) (o:=.cells #[.int .i64 a1_0,.int .i64 a1_1,.int .i64 a1_2,.bool a1_3] 40 (0,0)) (bL Bb.out) k_ hk));(case aO=>exact (rL Bi.out));(case aS=>exact (bZ (by repeat (first|(with_reducible first|exact HB.out|apply oA|apply pN|apply o1|refine bS ?_ Bf.out|refine bS ?_ Bg.out|refine bS ?_ Bj.out)|exact HB.out))));(case aL=>have:=LMc28.out;omega);intro v169 w34 ho hb hg hat;rw [← Ny168.out] at ho;have n0_:=Am (blk_grown (g:=Be) (o:=.cells #[.slice (some ad159) l0_0.length c0_0,.int .i64 a0_1] 25 (0,0)) (bL Ba.out) hg (Kd.R_ne Bi.out Ba.out (by decide)));have n1_:=Am (blk_grown (g:=Bd) (o:=.cells #[.int .i64 a1_0,.int .i64 a1_1,.int .i64 a1_2,.bool a1_3] 40 (0,0)) (bL Bb.out) hg (Kd.R_away Bi.out (fun _ hk=>hk)));have n2_:=Am (blk_grown (g:=Bh) (o:=.cells #[.slice none 0 0,.int .i64 0] 25 (0,0)) (bL Bc.out) hg (Kd.R_ne Bi.out Bc.out (by decide)));have n3_:=Am (hb);have n4_:=Am (ho);clear Ba Bb Bc HB Bi;revert n0_ n1_ n2_ n3_ n4_;intro Ba Bb Bc HB BH;clear ho hb hg hat));try go_wp2_with (first|((with_reducible refine gate_builtin (b:=.append) (xs:=#[.tmp 33,.tmp 39]) rfl ?_);at_builtin;refine Kd.R_append k40 (w0:=w) w.heap.size rfl (.tmp 33) (.tmp 39) 23 40 (.agg #[(.int .i64 0),(.int .i64 0),(.int .i64 0),(.bool false)]) 32 rfl Try.underlying23 info40 rfl (by decide) (by omega) u5 x5_1 (⟨(rd_T40 l0_0 x7_1).f0,(rd_T40 l0_0 x7_1).f1,(rd_T40 l0_0 x7_1).f2,(rd_T40 l0_0 x7_1).f3⟩:S40) [.int .i64 ((rd_T40 l0_0 x7_1).f0),.int .i64 ((rd_T40 l0_0 x7_1).f1),.int .i64 ((rd_T40 l0_0 x7_1).f2),.bool ((rd_T40 l0_0 x7_1).f3)] (fun k_=>k_≠Bd) (fun _=>False) rfl rfl ?aP (fun _ hk=>hk.elim) ?aF ?aO ?aB ?aS ?aL ?_;(case aP=>exact k40_mkM _ _ _ (⟨(rd_T40 l0_0 x7_1).f0,(rd_T40 l0_0 x7_1).f1,(rd_T40 l0_0 x7_1).f2,(rd_T40 l0_0 x7_1).f3⟩:S40));(case aB=>exact (by repeat (first|(with_reducible first|exact HB.out|apply oA|apply pN|apply o1|refine bS ?_ Bf.out|refine bS ?_ Bg.out|refine bS ?_ Bj.out)|exact HB.out)));(case aF=>exact (fun k_ hk=>Kd.freshB (g:=Bd) (o:=.cells #[.int .i64 a1_0,.int .i64 a1_1,.int .i64 a1_2,.bool a1_3] 40 (0,0)) (bL Bb.out) k_ hk));(case aO=>exact (rL Bi.out));(case aS=>exact (bZ (by repeat (first|(with_reducible first|exact HB.out|apply oA|apply pN|apply o1|refine bS ?_ Bf.out|refine bS ?_ Bg.out|refine bS ?_ Bj.out)|exact HB.out))));(case aL=>have:=LMc28.out;omega);intro v169 w34 ho hb hg hat;rw [← Ny168.out] at ho;have n0_:=Am (blk_grown (g:=Be) (o:=.cells #[.slice (some ad159) l0_0.length c0_0,.int .i64 a0_1] 25 (0,0)) (bL Ba.out) hg (Kd.R_ne Bi.out Ba.out (by decide)));have n1_:=Am (blk_grown (g:=Bd) (o:=.cells #[.int .i64 a1_0,.int .i64 a1_1,.int .i64 a1_2,.bool a1_3] 40 (0,0)) (bL Bb.out) hg (Kd.R_away Bi.out (fun _ hk=>hk)));have n2_:=Am (blk_grown (g:=Bh) (o:=.cells #[.slice none 0 0,.int .i64 0] 25 (0,0)) (bL Bc.out) hg (Kd.R_ne Bi.out Bc.out (by decide)));have n3_:=Am (hb);have n4_:=Am (ho);clear Ba Bb Bc HB Bi;revert n0_ n1_ n2_ n3_ n4_;intro Ba Bb Bc HB BH;clear ho hb hg hat)))
    go_roundg k1
    case measure=>have:=HK1.out;omega
    case rel=>exact ⟨(y168),(false),(wrap64 (x7_1 + 1)),(by first|rfl|(simp;done)|(simp [*];done)),(by first|rfl|(simp;done)|(simp [*];done)),H',⟨by have:=HK1.out;omega⟩,⟨by (with_reducible repeat (first|apply rA|apply rN|apply rD));exact BH.out⟩,⟨by (with_reducible repeat (first|refine bN ?_ _|refine bD ?_|refine bA ?_ _));exact Ba.out⟩,⟨by (with_reducible repeat (first|refine bN ?_ _|refine bD ?_|refine bA ?_ _));exact Bb.out⟩,⟨by (with_reducible repeat (first|refine bN ?_ _|refine bD ?_|refine bA ?_ _));exact Bc.out⟩,⟨by repeat (first|(with_reducible first|exact HB.out|apply oA|apply pN|apply o1|refine bS ?_ Bf.out|refine bS ?_ Bg.out|refine bS ?_ Bj.out)|exact HB.out)⟩⟩
   rw [if_pos c17] at H
   have c17b0:decide (a1_0<((rd_T40 l0_0 x7_1).f0))=true:=decide_eq_true c17
   clear c17
   by_cases c18:x5_1.length<4398046511104
   rotate_left
   ·rw [if_neg c18] at H
    exact absurd H (by simp)
   rw [if_pos c18] at H
   have LMc18:=Am c18
   clear c18
   obtain ⟨y160,hy160⟩:∃ y_:List (S40),y_=(x5_1 ++ [(⟨a1_0,a1_1,a1_2,a1_3⟩:S40)]):=⟨_,rfl⟩
   replace H:(if y160.length<4398046511104 then (spec_l11Add.l0 k1 (y160 ++ [(⟨(rd_T40 l0_0 x7_1).f0,(rd_T40 l0_0 x7_1).f1,(rd_T40 l0_0 x7_1).f2,(rd_T40 l0_0 x7_1).f3⟩:S40)]) true (wrap64 (x7_1 + 1)) l0_0 a0_1 a1_0 a1_1 a1_2 a1_3) else (none))=some (r1,r2):=by first|(rw [hy160];with_reducible exact H)|(have H2_:=(Option.bind_some _ _).symm.trans H;rw [hy160];with_reducible exact H2_)|(have H2_:=(Option.bind_some _ _).symm.trans H;with_reducible exact H2_)|with_reducible exact H|(rw [hy160];exact H)|exact H
   have Ny160:=Am hy160
   clear hy160
   by_cases c19:y160.length<4398046511104
   rotate_left
   ·rw [if_neg c19] at H
    exact absurd H (by simp)
   rw [if_pos c19] at H
   have LMc19:=Am c19
   clear c19
   obtain ⟨y164,hy164⟩:∃ y_:List (S40),y_=(y160 ++ [(⟨(rd_T40 l0_0 x7_1).f0,(rd_T40 l0_0 x7_1).f1,(rd_T40 l0_0 x7_1).f2,(rd_T40 l0_0 x7_1).f3⟩:S40)]):=⟨_,rfl⟩
   replace H:(spec_l11Add.l0 k1 y164 true (wrap64 (x7_1 + 1)) l0_0 a0_1 a1_0 a1_1 a1_2 a1_3)=some (r1,r2):=by first|(rw [hy164];with_reducible exact H)|(have H2_:=(Option.bind_some _ _).symm.trans H;rw [hy164];with_reducible exact H2_)|(have H2_:=(Option.bind_some _ _).symm.trans H;with_reducible exact H2_)|with_reducible exact H|(rw [hy164];exact H)|exact H
   have Ny164:=Am hy164
   clear hy164
   have H':=Am H
   clear H
   have DB:=Bm.out
   have DC:=Bn.out
   have DD:=Bo.out
   have DE:=Bk.out
   have BP:=cz0 Ba.out
   have BQ:=cz1 Ba.out
   have BR:=bF Ba.out 0
   have BS:=bF Ba.out 1
   have p159:0≤(x7_1:Int):=of_decide_eq_true (by first|(with_reducible assumption)|assumption)
   have q159:x7_1<(l0_0.length:Int):=of_decide_eq_true (by first|(with_reducible assumption)|assumption)
   obtain ⟨ad159,e159,hx159_0,hx159_1,hx159_2,hx159_3⟩:=at_T40 HR0_0.out x7_1 p159 q159
   cases e159
   replace hx159_0:=(bW HB hx159_0:)
   replace hx159_1:=(bW HB hx159_1:)
   replace hx159_2:=(bW HB hx159_2:)
   replace hx159_3:=(bW HB hx159_3:)
   replace p159:=eq_true p159
   replace q159:=eq_true q159
   have DF:=Bp.out
   have DG:=Bq.out
   have BT:=cz0 Bb.out
   have BU:=cz1 Bb.out
   have BV:=cz2 Bb.out
   have BW:=cz3 Bb.out
   have BX:=bF Bb.out 0
   have BY:=bF Bb.out 1
   have BZ:=bF Bb.out 2
   have B0:=bF Bb.out 3
   go_wp2_with (first|((with_reducible refine gate_builtin (b:=.append) (xs:=#[.tmp 29,.tmp 31]) rfl ?_);at_builtin;refine Kd.R_append k40 (w0:=w) w.heap.size rfl (.tmp 29) (.tmp 31) 23 40 (.agg #[(.int .i64 0),(.int .i64 0),(.int .i64 0),(.bool false)]) 32 rfl Try.underlying23 info40 rfl (by decide) (by omega) u5 x5_1 (⟨a1_0,a1_1,a1_2,a1_3⟩:S40) [.int .i64 a1_0,.int .i64 a1_1,.int .i64 a1_2,.bool a1_3] (fun k_=>k_≠Bd) (fun _=>False) rfl rfl ?aP (fun _ hk=>hk.elim) ?aF ?aO ?aB ?aS ?aL ?_;(case aP=>exact k40_mkM _ _ _ (⟨a1_0,a1_1,a1_2,a1_3⟩:S40));(case aB=>exact (by repeat (first|(with_reducible first|exact HB.out|apply oA|apply pN|apply o1|refine bS ?_ Bf.out|refine bS ?_ Bg.out|refine bS ?_ Bj.out)|exact HB.out)));(case aF=>exact (fun k_ hk=>Kd.freshB (g:=Bd) (o:=.cells #[.int .i64 a1_0,.int .i64 a1_1,.int .i64 a1_2,.bool a1_3] 40 (0,0)) (bL Bb.out) k_ hk));(case aO=>exact (rL Bi.out));(case aS=>exact (bZ (by repeat (first|(with_reducible first|exact HB.out|apply oA|apply pN|apply o1|refine bS ?_ Bf.out|refine bS ?_ Bg.out|refine bS ?_ Bj.out)|exact HB.out))));(case aL=>have:=LMc18.out;omega);intro v161 w25 ho hb hg hat;rw [← Ny160.out] at ho;have n0_:=Am (blk_grown (g:=Be) (o:=.cells #[.slice (some ad159) l0_0.length c0_0,.int .i64 a0_1] 25 (0,0)) (bL Ba.out) hg (Kd.R_ne Bi.out Ba.out (by decide)));have n1_:=Am (blk_grown (g:=Bd) (o:=.cells #[.int .i64 a1_0,.int .i64 a1_1,.int .i64 a1_2,.bool a1_3] 40 (0,0)) (bL Bb.out) hg (Kd.R_away Bi.out (fun _ hk=>hk)));have n2_:=Am (blk_grown (g:=Bh) (o:=.cells #[.slice none 0 0,.int .i64 0] 25 (0,0)) (bL Bc.out) hg (Kd.R_ne Bi.out Bc.out (by decide)));have n3_:=Am (hb);have n4_:=Am (ho);clear Ba Bb Bc HB Bi;revert n0_ n1_ n2_ n3_ n4_;intro Ba Bb Bc HB Bl;clear ho hb hg hat;have Bs:=cz0 Ba.out;have Bt:=cz1 Ba.out;have Bu:=bF Ba.out 0;have Bv:=bF Ba.out 1;have p163:0≤(x7_1:Int):=of_decide_eq_true (by first|(with_reducible assumption)|assumption);have q163:x7_1<(l0_0.length:Int):=of_decide_eq_true (by first|(with_reducible assumption)|assumption);obtain ⟨ad163,e163,hx163_0,hx163_1,hx163_2,hx163_3⟩:=at_T40 HR0_0.out x7_1 p163 q163;obtain rfl:ad159=ad163:=(by injection e163);replace hx163_0:=(HB.out.cell (World.block_lt_of_cell? w _ hx163_0)).trans hx163_0;replace hx163_1:=(HB.out.cell (World.block_lt_of_cell? w _ hx163_1)).trans hx163_1;replace hx163_2:=(HB.out.cell (World.block_lt_of_cell? w _ hx163_2)).trans hx163_2;replace hx163_3:=(HB.out.cell (World.block_lt_of_cell? w _ hx163_3)).trans hx163_3;replace p163:=eq_true p163;replace q163:=eq_true q163)|((with_reducible refine gate_builtin (b:=.append) (xs:=#[.tmp 33,.tmp 39]) rfl ?_);at_builtin;refine Kd.R_append k40 (w0:=w) w.heap.size rfl (.tmp 33) (.tmp 39) 23 40 (.agg #[(.int .i64 0),(.int .i64 0),(.int .i64 0),(.bool false)]) 32 rfl Try.underlying23 info40 rfl (by decide) (by omega) v161 y160 (⟨(rd_T40 l0_0 x7_1).f0,(rd_T40 l0_0 x7_1).f1,(rd_T40 l0_0 x7_1).f2,(rd_T40 l0_0 x7_1).f3⟩:S40) [.int .i64 ((rd_T40 l0_0 x7_1).f0),.int .i64 ((rd_T40 l0_0 x7_1).f1),.int .i64 ((rd_T40 l0_0 x7_1).f2),.bool ((rd_T40 l0_0 x7_1).f3)] (fun k_=>k_≠Bd) (fun _=>False) rfl rfl ?aP (fun _ hk=>hk.elim) ?aF ?aO ?aB ?aS ?aL ?_;(case aP=>exact k40_mkM _ _ _ (⟨(rd_T40 l0_0 x7_1).f0,(rd_T40 l0_0 x7_1).f1,(rd_T40 l0_0 x7_1).f2,(rd_T40 l0_0 x7_1).f3⟩:S40));(case aB=>exact (by repeat (first|(with_reducible first|exact HB.out|apply oA|apply pN|apply o1|refine bS ?_ Bf.out|refine bS ?_ Bg.out|refine bS ?_ Bj.out)|exact HB.out)));(case aF=>exact (fun k_ hk=>Kd.freshB (g:=Bd) (o:=.cells #[.int .i64 a1_0,.int .i64 a1_1,.int .i64 a1_2,.bool a1_3] 40 (0,0)) (bL Bb.out) k_ hk));(case aO=>exact (rL Bl.out));(case aS=>exact (bZ (by repeat (first|(with_reducible first|exact HB.out|apply oA|apply pN|apply o1|refine bS ?_ Bf.out|refine bS ?_ Bg.out|refine bS ?_ Bj.out)|exact HB.out))));(case aL=>have:=LMc19.out;omega);intro v165 w27 ho hb hg hat;rw [← Ny164.out] at ho;have n0_:=Am (blk_grown (g:=Be) (o:=.cells #[.slice (some ad159) l0_0.length c0_0,.int .i64 a0_1] 25 (0,0)) (bL Ba.out) hg (Kd.R_ne Bl.out Ba.out (by decide)));have n1_:=Am (blk_grown (g:=Bd) (o:=.cells #[.int .i64 a1_0,.int .i64 a1_1,.int .i64 a1_2,.bool a1_3] 40 (0,0)) (bL Bb.out) hg (Kd.R_away Bl.out (fun _ hk=>hk)));have n2_:=Am (blk_grown (g:=Bh) (o:=.cells #[.slice none 0 0,.int .i64 0] 25 (0,0)) (bL Bc.out) hg (Kd.R_ne Bl.out Bc.out (by decide)));have n3_:=Am (hb);have n4_:=Am (ho);clear Ba Bb Bc HB Bl;revert n0_ n1_ n2_ n3_ n4_;intro Ba Bb Bc HB BG;clear ho hb hg hat))
   repeat (go_quiet (first|((with_reducible refine gate_builtin (b:=.append) (xs:=#[.tmp 29,.tmp 31]) rfl ?_);at_builtin;refine Kd.R_append k40 (w0:=w) w.heap.size rfl (.tmp 29) (.tmp 31) 23 40 (.agg #[(.int .i64 0),(.int .i64 0),(.int .i64 0),(.bool false)]) 32 rfl Try.underlying23 info40 rfl (by decide) (by omega) u5 x5_1 (⟨a1_0,a1_1,a1_2,a1_3⟩:S40) [.int .i64 a1_0,.int .i64 a1_1,.int .i64 a1_2,.bool a1_3] (fun k_=>k_≠Bd) (fun _=>False) rfl rfl ?aP (fun _ hk=>hk.elim) ?aF ?aO ?aB ?aS ?aL ?_;(case aP=>exact k40_mkM _ _ _ (⟨a1_0,a1_1,a1_2,a1_3⟩:S40));(case aB=>exact (by repeat (first|(with_reducible first|exact HB.out|apply oA|apply pN|apply o1|refine bS ?_ Bf.out|refine bS ?_ Bg.out|refine bS ?_ Bj.out)|exact HB.out)));(case aF=>exact (fun k_ hk=>Kd.freshB (g:=Bd) (o:=.cells #[.int .i64 a1_0,.int .i64 a1_1,.int .i64 a1_2,.bool a1_3] 40 (0,0)) (bL Bb.out) k_ hk));(case aO=>exact (rL Bi.out));(case aS=>exact (bZ (by repeat (first|(with_reducible first|exact HB.out|apply oA|apply pN|apply o1|refine bS ?_ Bf.out|refine bS ?_ Bg.out|refine bS ?_ Bj.out)|exact HB.out))));(case aL=>have:=LMc18.out;omega);intro v161 w25 ho hb hg hat;rw [← Ny160.out] at ho;have n0_:=Am (blk_grown (g:=Be) (o:=.cells #[.slice (some ad159) l0_0.length c0_0,.int .i64 a0_1] 25 (0,0)) (bL Ba.out) hg (Kd.R_ne Bi.out Ba.out (by decide)));have n1_:=Am (blk_grown (g:=Bd) (o:=.cells #[.int .i64 a1_0,.int .i64 a1_1,.int .i64 a1_2,.bool a1_3] 40 (0,0)) (bL Bb.out) hg (Kd.R_away Bi.out (fun _ hk=>hk)));have n2_:=Am (blk_grown (g:=Bh) (o:=.cells #[.slice none 0 0,.int .i64 0] 25 (0,0)) (bL Bc.out) hg (Kd.R_ne Bi.out Bc.out (by decide)));have n3_:=Am (hb);have n4_:=Am (ho);clear Ba Bb Bc HB Bi;revert n0_ n1_ n2_ n3_ n4_;intro Ba Bb Bc HB Bl;clear ho hb hg hat;have Bs:=cz0 Ba.out;have Bt:=cz1 Ba.out;have Bu:=bF Ba.out 0;have Bv:=bF Ba.out 1;have p163:0≤(x7_1:Int):=of_decide_eq_true (by first|(with_reducible assumption)|assumption);have q163:x7_1<(l0_0.length:Int):=of_decide_eq_true (by first|(with_reducible assumption)|assumption);obtain ⟨ad163,e163,hx163_0,hx163_1,hx163_2,hx163_3⟩:=at_T40 HR0_0.out x7_1 p163 q163;obtain rfl:ad159=ad163:=(by injection e163);replace hx163_0:=(HB.out.cell (World.block_lt_of_cell? w _ hx163_0)).trans hx163_0;replace hx163_1:=(HB.out.cell (World.block_lt_of_cell? w _ hx163_1)).trans hx163_1;replace hx163_2:=(HB.out.cell (World.block_lt_of_cell? w _ hx163_2)).trans hx163_2;replace hx163_3:=(HB.out.cell (World.block_lt_of_cell? w _ hx163_3)).trans hx163_3;replace p163:=eq_true p163;replace q163:=eq_true q163)|((with_reducible refine gate_builtin (b:=.append) (xs:=#[.tmp 33,.tmp 39]) rfl ?_);at_builtin;refine Kd.R_append k40 (w0:=w) w.heap.size rfl (.tmp 33) (.tmp 39) 23 40 (.agg #[(.int .i64 0),(.int .i64 0),(.int .i64 0),(.bool false)]) 32 rfl Try.underlying23 info40 rfl (by decide) (by omega) v161 y160 (⟨(rd_T40 l0_0 x7_1).f0,(rd_T40 l0_0 x7_1).f1,(rd_T40 l0_0 x7_1).f2,(rd_T40 l0_0 x7_1).f3⟩:S40) [.int .i64 ((rd_T40 l0_0 x7_1).f0),.int .i64 ((rd_T40 l0_0 x7_1).f1),.int .i64 ((rd_T40 l0_0 x7_1).f2),.bool ((rd_T40 l0_0 x7_1).f3)] (fun k_=>k_≠Bd) (fun _=>False) rfl rfl ?aP (fun _ hk=>hk.elim) ?aF ?aO ?aB ?aS ?aL ?_;(case aP=>exact k40_mkM _ _ _ (⟨(rd_T40 l0_0 x7_1).f0,(rd_T40 l0_0 x7_1).f1,(rd_T40 l0_0 x7_1).f2,(rd_T40 l0_0 x7_1).f3⟩:S40));(case aB=>exact (by repeat (first|(with_reducible first|exact HB.out|apply oA|apply pN|apply o1|refine bS ?_ Bf.out|refine bS ?_ Bg.out|refine bS ?_ Bj.out)|exact HB.out)));(case aF=>exact (fun k_ hk=>Kd.freshB (g:=Bd) (o:=.cells #[.int .i64 a1_0,.int .i64 a1_1,.int .i64 a1_2,.bool a1_3] 40 (0,0)) (bL Bb.out) k_ hk));(case aO=>exact (rL Bl.out));(case aS=>exact (bZ (by repeat (first|(with_reducible first|exact HB.out|apply oA|apply pN|apply o1|refine bS ?_ Bf.out|refine bS ?_ Bg.out|refine bS ?_ Bj.out)|exact HB.out))));(case aL=>have:=LMc19.out;omega);intro v165 w27 ho hb hg hat;rw [← Ny164.out] at ho;have n0_:=Am (blk_grown (g:=Be) (o:=.cells #[.slice (some ad159) l0_0.length c0_0,.int .i64 a0_1] 25 (0,0)) (bL Ba.out) hg (Kd.R_ne Bl.out Ba.out (by decide)));have n1_:=Am (blk_grown (g:=Bd) (o:=.cells #[.int .i64 a1_0,.int .i64 a1_1,.int .i64 a1_2,.bool a1_3] 40 (0,0)) (bL Bb.out) hg (Kd.R_away Bl.out (fun _ hk=>hk)));have n2_:=Am (blk_grown (g:=Bh) (o:=.cells #[.slice none 0 0,.int .i64 0] 25 (0,0)) (bL Bc.out) hg (Kd.R_ne Bl.out Bc.out (by decide)));have n3_:=Am (hb);have n4_:=Am (ho);clear Ba Bb Bc HB Bl;revert n0_ n1_ n2_ n3_ n4_;intro Ba Bb Bc HB BG;clear ho hb hg hat));try go_wp2_with (first|((with_reducible refine gate_builtin (b:=.append) (xs:=#[.tmp 29,.tmp 31]) rfl ?_);at_builtin;refine Kd.R_append k40 (w0:=w) w.heap.size rfl (.tmp 29) (.tmp 31) 23 40 (.agg #[(.int .i64 0),(.int .i64 0),(.int .i64 0),(.bool false)]) 32 rfl Try.underlying23 info40 rfl (by decide) (by omega) u5 x5_1 (⟨a1_0,a1_1,a1_2,a1_3⟩:S40) [.int .i64 a1_0,.int .i64 a1_1,.int .i64 a1_2,.bool a1_3] (fun k_=>k_≠Bd) (fun _=>False) rfl rfl ?aP (fun _ hk=>hk.elim) ?aF ?aO ?aB ?aS ?aL ?_;(case aP=>exact k40_mkM _ _ _ (⟨a1_0,a1_1,a1_2,a1_3⟩:S40));(case aB=>exact (by repeat (first|(with_reducible first|exact HB.out|apply oA|apply pN|apply o1|refine bS ?_ Bf.out|refine bS ?_ Bg.out|refine bS ?_ Bj.out)|exact HB.out)));(case aF=>exact (fun k_ hk=>Kd.freshB (g:=Bd) (o:=.cells #[.int .i64 a1_0,.int .i64 a1_1,.int .i64 a1_2,.bool a1_3] 40 (0,0)) (bL Bb.out) k_ hk));(case aO=>exact (rL Bi.out));(case aS=>exact (bZ (by repeat (first|(with_reducible first|exact HB.out|apply oA|apply pN|apply o1|refine bS ?_ Bf.out|refine bS ?_ Bg.out|refine bS ?_ Bj.out)|exact HB.out))));(case aL=>have:=LMc18.out;omega);intro v161 w25 ho hb hg hat;rw [← Ny160.out] at ho;have n0_:=Am (blk_grown (g:=Be) (o:=.cells #[.slice (some ad159) l0_0.length c0_0,.int .i64 a0_1] 25 (0,0)) (bL Ba.out) hg (Kd.R_ne Bi.out Ba.out (by decide)));have n1_:=Am (blk_grown (g:=Bd) (o:=.cells #[.int .i64 a1_0,.int .i64 a1_1,.int .i64 a1_2,.bool a1_3] 40 (0,0)) (bL Bb.out) hg (Kd.R_away Bi.out (fun _ hk=>hk)));have n2_:=Am (blk_grown (g:=Bh) (o:=.cells #[.slice none 0 0,.int .i64 0] 25 (0,0)) (bL Bc.out) hg (Kd.R_ne Bi.out Bc.out (by decide)));have n3_:=Am (hb);have n4_:=Am (ho);clear Ba Bb Bc HB Bi;revert n0_ n1_ n2_ n3_ n4_;intro Ba Bb Bc HB Bl;clear ho hb hg hat;have Bs:=cz0 Ba.out;have Bt:=cz1 Ba.out;have Bu:=bF Ba.out 0;have Bv:=bF Ba.out 1;have p163:0≤(x7_1:Int):=of_decide_eq_true (by first|(with_reducible assumption)|assumption);have q163:x7_1<(l0_0.length:Int):=of_decide_eq_true (by first|(with_reducible assumption)|assumption);obtain ⟨ad163,e163,hx163_0,hx163_1,hx163_2,hx163_3⟩:=at_T40 HR0_0.out x7_1 p163 q163;obtain rfl:ad159=ad163:=(by injection e163);replace hx163_0:=(HB.out.cell (World.block_lt_of_cell? w _ hx163_0)).trans hx163_0;replace hx163_1:=(HB.out.cell (World.block_lt_of_cell? w _ hx163_1)).trans hx163_1;replace hx163_2:=(HB.out.cell (World.block_lt_of_cell? w _ hx163_2)).trans hx163_2;replace hx163_3:=(HB.out.cell (World.block_lt_of_cell? w _ hx163_3)).trans hx163_3;replace p163:=eq_true p163;replace q163:=eq_true q163)|((with_reducible refine gate_builtin (b:=.append) (xs:=#[.tmp 33,.tmp 39]) rfl ?_);at_builtin;refine Kd.R_append k40 (w0:=w) w.heap.size rfl (.tmp 33) (.tmp 39) 23 40 (.agg #[(.int .i64 0),(.int .i64 0),(.int .i64 0),(.bool false)]) 32 rfl Try.underlying23 info40 rfl (by decide) (by omega) v161 y160 (⟨(rd_T40 l0_0 x7_1).f0,(rd_T40 l0_0 x7_1).f1,(rd_T40 l0_0 x7_1).f2,(rd_T40 l0_0 x7_1).f3⟩:S40) [.int .i64 ((rd_T40 l0_0 x7_1).f0),.int .i64 ((rd_T40 l0_0 x7_1).f1),.int .i64 ((rd_T40 l0_0 x7_1).f2),.bool ((rd_T40 l0_0 x7_1).f3)] (fun k_=>k_≠Bd) (fun _=>False) rfl rfl ?aP (fun _ hk=>hk.elim) ?aF ?aO ?aB ?aS ?aL ?_;(case aP=>exact k40_mkM _ _ _ (⟨(rd_T40 l0_0 x7_1).f0,(rd_T40 l0_0 x7_1).f1,(rd_T40 l0_0 x7_1).f2,(rd_T40 l0_0 x7_1).f3⟩:S40));(case aB=>exact (by repeat (first|(with_reducible first|exact HB.out|apply oA|apply pN|apply o1|refine bS ?_ Bf.out|refine bS ?_ Bg.out|refine bS ?_ Bj.out)|exact HB.out)));(case aF=>exact (fun k_ hk=>Kd.freshB (g:=Bd) (o:=.cells #[.int .i64 a1_0,.int .i64 a1_1,.int .i64 a1_2,.bool a1_3] 40 (0,0)) (bL Bb.out) k_ hk));(case aO=>exact (rL Bl.out));(case aS=>exact (bZ (by repeat (first|(with_reducible first|exact HB.out|apply oA|apply pN|apply o1|refine bS ?_ Bf.out|refine bS ?_ Bg.out|refine bS ?_ Bj.out)|exact HB.out))));(case aL=>have:=LMc19.out;omega);intro v165 w27 ho hb hg hat;rw [← Ny164.out] at ho;have n0_:=Am (blk_grown (g:=Be) (o:=.cells #[.slice (some ad159) l0_0.length c0_0,.int .i64 a0_1] 25 (0,0)) (bL Ba.out) hg (Kd.R_ne Bl.out Ba.out (by decide)));have n1_:=Am (blk_grown (g:=Bd) (o:=.cells #[.int .i64 a1_0,.int .i64 a1_1,.int .i64 a1_2,.bool a1_3] 40 (0,0)) (bL Bb.out) hg (Kd.R_away Bl.out (fun _ hk=>hk)));have n2_:=Am (blk_grown (g:=Bh) (o:=.cells #[.slice none 0 0,.int .i64 0] 25 (0,0)) (bL Bc.out) hg (Kd.R_ne Bl.out Bc.out (by decide)));have n3_:=Am (hb);have n4_:=Am (ho);clear Ba Bb Bc HB Bl;revert n0_ n1_ n2_ n3_ n4_;intro Ba Bb Bc HB BG;clear ho hb hg hat)))
   go_roundg k1
   case measure=>have:=HK1.out;omega
   case rel=>exact ⟨(y164),(true),(wrap64 (x7_1 + 1)),(by first|rfl|(simp;done)|(simp [*];done)),(by first|rfl|(simp;done)|(simp [*];done)),H',⟨by have:=HK1.out;omega⟩,⟨by (with_reducible repeat (first|apply rA|apply rN|apply rD));exact BG.out⟩,⟨by (with_reducible repeat (first|refine bN ?_ _|refine bD ?_|refine bA ?_ _));exact Ba.out⟩,⟨by (with_reducible repeat (first|refine bN ?_ _|refine bD ?_|refine bA ?_ _));exact Bb.out⟩,⟨by (with_reducible repeat (first|refine bN ?_ _|refine bD ?_|refine bA ?_ _));exact Bc.out⟩,⟨by repeat (first|(with_reducible first|exact HB.out|apply oA|apply pN|apply o1|refine bS ?_ Bf.out|refine bS ?_ Bg.out|refine bS ?_ Bj.out)|exact HB.out)⟩⟩
end Go.Proofs.Ytfhcgmfodfcpeaa.PFnQueueLess
