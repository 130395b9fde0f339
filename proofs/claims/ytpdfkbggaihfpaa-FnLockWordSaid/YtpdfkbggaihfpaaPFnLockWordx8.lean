/- Proved here, without a condition beyond those that each theorem states: what the Go functions named below do is what the plain functions of the same names say. Written by xprint.py, a program of this session. -/
import Derived.Test.YtpdfkbggaihfpaaPFnLockWordx0
namespace Go.Proofs.Ytpdfkbggaihfpaa.PFnLockWord
open Go.RowKit Go.Proofs.YtpdfkbggaihfpaaW.PrintWords Go.Proofs.YtpdfkbggaihfpaaW.PrintLast Go.Proofs.YtpdfkbggaihfpaaW.PrintMore
attribute [local go_sem] max2_int min2_int max_two min_two max_three min_three max_four min_four   -- for this text's walks alone
set_option linter.unusedVariables false
set_option linter.unusedSimpArgs false

attribute [local go_sem ↓] isSome_setCell_
/-! ### impl_Lock_can: function 61 -/
def impl_Lock_can.f (a0_0 : Int) (l0_1 : List (S57)) (l0_2 : List Int) (a1 : Int) : Option (Bool) := if 0 ≤ a1 then (if a1 < (l0_1.length : Int) then (if ((rd_T57 l0_1 a1).f3 = true) then (some false) else (if ((rd_T57 l0_1 a1).f0) > 0 then (some true) else (some (decide (((rd_T57 l0_1 a1).f2) > 0))))) else (none)) else (none)
set_option maxHeartbeats 2000000 in
set_option maxRecDepth 100000 in
theorem impl_Lock_can.calls (a0_0:Int) (A0_1:Option Addr) (c0_1:Nat) (l0_1:List (S57)) (A0_2:Option Addr) (c0_2:Nat) (l0_2:List Int) (a1:Int) (r:Bool) (w:World) (hr0_1:Kd.C k57 w A0_1 l0_1.length l0_1) (hc0_1:l0_1.length≤c0_1) (hr0_2:Kd.C (Kd.int .i64) w A0_2 l0_2.length l0_2) (hc0_2:l0_2.length≤c0_2) (h:impl_Lock_can.f a0_0 l0_1 l0_2 a1=some r) :
  Calls Try.prog 61 #[.agg #[.int .i64 a0_0,.slice A0_1 l0_1.length c0_1,.slice A0_2 l0_2.length c0_2],.int .i64 a1] w fun e w'=>e=.returned (.bool r)∧Below w.heap.size w w':=by
 have hu51:=Try.underlying51
 have hu57:=Try.underlying57
 have HR0_1:=Am hr0_1
 have HC0_1:=Am hc0_1
 clear hr0_1 hc0_1
 have HR0_2:=Am hr0_2
 have HC0_2:=Am hc0_2
 clear hr0_2 hc0_2
 have HB:=Am (bJ w.heap.size w)
 have H:(if 0≤a1 then (if a1<(l0_1.length:Int) then (if ((rd_T57 l0_1 a1).f3=true) then (some false) else (if ((rd_T57 l0_1 a1).f0) > 0 then (some true) else (some (decide (((rd_T57 l0_1 a1).f2) > 0))))) else (none)) else (none))=some r:=h
 clear h
 by_cases c3:0≤a1
 rotate_left
 ·rw [if_neg c3] at H
  exact absurd H (by simp)


 rw [if_pos c3] at H
 have c3b0:decide (0≤a1)=true:=dT c3
 clear c3
 by_cases c4:a1<(l0_1.length:Int)
 rotate_left
 ·rw [if_neg c4] at H
  exact absurd H (by simp)
 rw [if_pos c4] at H
 have c4b0:decide (a1<(l0_1.length:Int))=true:=dT c4
 clear c4
 obtain ⟨bq5,hbq5⟩:∃ b_:Bool,b_=((rd_T57 l0_1 a1).f3):=⟨_,rfl⟩
 replace H:(if (bq5=true) then (some false) else (if ((rd_T57 l0_1 a1).f0) > 0 then (some true) else (some (decide (((rd_T57 l0_1 a1).f2) > 0)))))=some r:=by rw [← hbq5] at H;exact H
 have Nbq5:=Am hbq5
 clear hbq5
 by_cases c6:(bq5=true)
 ·subst c6
  have H1:(some false)=some r:=by rw [if_pos rfl] at H;exact H
  clear H
  have H:=H1
  clear H1
  obtain rfl:=oJ H
  go_enter Try.func61,Try.ntmps61
  go_wp2_with (first|((with_reducible refine gD (N:=2) rfl ?_);refine bI ?hg (N:=2) ?hd (cs:=#[.int .i64 a0_0,.slice A0_1 l0_1.length c0_1,.slice A0_2 l0_2.length c0_2]) (t:=51) ?hr ?_;(case hd=>rfl);(case hg=>rfl);(case hr=>first|(go_simp;done)|(go_simp;rfl));intro Bb hg w7 hbox hb;have n0_:=Am (bP (by repeat (first|(with_reducible first|exact HB.out|apply oA|apply pN|apply o1)|exact HB.out)) hb);have n1_:=Am (hbox);have n2_:=Am ((by rw [hg];exact (bZ (by repeat (first|(with_reducible first|exact HB.out|apply oA|apply pN|apply o1)|exact HB.out))):w.heap.size≤Bb));have n3_:=Am ((by rw [hg];exact (bZ (by repeat (first|(with_reducible first|exact HB.out|apply oA|apply pN|apply o1)|exact HB.out))):w.heap.size≤Bb));clear HB;revert n0_ n1_ n2_ n3_;intro HB Ba Bi Be;clear hb hbox hg;have BU:=cz0 Ba.out;have BV:=cz1 Ba.out;have BW:=cz2 Ba.out;have BX:=bF Ba.out 0;have BY:=bF Ba.out 1;have BZ:=bF Ba.out 2;have p156:0≤(a1:Int):=oE (by first|(with_reducible assumption)|assumption);have q156:a1<(l0_1.length:Int):=oE (by first|(with_reducible assumption)|assumption);obtain ⟨ad156,e156,hx156_0,hx156_1,hx156_2,hx156_3⟩:=at_T57 HR0_1.out a1 p156 q156;(try rw [← Nbq5.out] at hx156_3);cases e156;replace hx156_0:=(HB.out.cell (World.block_lt_of_cell? w _ hx156_0)).trans hx156_0;replace hx156_1:=(HB.out.cell (World.block_lt_of_cell? w _ hx156_1)).trans hx156_1;replace hx156_2:=(HB.out.cell (World.block_lt_of_cell? w _ hx156_2)).trans hx156_2;replace hx156_3:=(HB.out.cell (World.block_lt_of_cell? w _ hx156_3)).trans hx156_3;replace p156:=eq_true p156;replace q156:=eq_true q156)|((with_reducible refine gD (N:=5) rfl ?_);refine bI ?hg (N:=5) ?hd (cs:=#[.int .i64 0,.int .i64 0,.int .i64 0,.bool false]) (t:=57) ?hr ?_;(case hd=>rfl);(case hg=>rfl);(case hr=>first|(go_simp;done)|(go_simp;rfl));intro Bc hg w9 hbox hb;have n0_:=Am (bX Ba.out hb);have n1_:=Am (bP (by repeat (first|(with_reducible first|exact HB.out|apply oA|apply pN|apply o1|refine bS ?_ Be.out)|exact HB.out)) hb);have n2_:=Am (hbox);have n3_:=Am ((by rw [hg];exact (bZ (by repeat (first|(with_reducible first|exact HB.out|apply oA|apply pN|apply o1|refine bS ?_ Be.out)|exact HB.out))):w.heap.size≤Bc));have n4_:=Am ((by rw [hg];exact (bZ (by repeat (first|(with_reducible first|exact HB.out|apply oA|apply pN|apply o1|refine bS ?_ Be.out)|exact HB.out))):w.heap.size≤Bc));have n5_:=Am ((nL Ba.out hg));have n6_:=Am ((nG Ba.out hg));clear Ba HB;revert n0_ n1_ n2_ n3_ n4_ n5_ n6_;intro Ba HB Bd Bj Bh Bf Bg;clear hb hbox hg;have B0:=Bg.out;have B1:=Bf.out;have Bk:=cz0 Bd.out;have Bl:=cz1 Bd.out;have Bm:=cz2 Bd.out;have Bn:=cz3 Bd.out;have Bo:=bF Bd.out 0;have Bp:=bF Bd.out 1;have Bq:=bF Bd.out 2;have Br:=bF Bd.out 3))
  go_ret
  exact ⟨by first|rfl|(simp [errW_none,errW_some] <;> rfl)|(simp [*,errW_none,errW_some] <;> rfl),by repeat (first|(with_reducible first|exact HB.out|apply oA|apply pN|apply o1|refine bS ?_ Be.out|refine bS ?_ Bh.out)|exact HB.out)⟩
 replace c6:=Bool.eq_false_iff.mpr c6
 subst c6
 have H1:(if ((rd_T57 l0_1 a1).f0) > 0 then (some true) else (some (decide (((rd_T57 l0_1 a1).f2) > 0))))=some r:=by rw [if_neg (show ¬ (false=true) by decide)] at H;exact H
 clear H
 have H:=H1
 clear H1
 by_cases c12:((rd_T57 l0_1 a1).f0) > 0
 ·rw [if_pos c12] at H
  have c12b0:decide (0<((rd_T57 l0_1 a1).f0))=true:=dT c12
  clear c12
  obtain rfl:=oJ H
  go_enter Try.func61,Try.ntmps61
  go_wp2_with (first|((with_reducible refine gD (N:=2) rfl ?_);refine bI ?hg (N:=2) ?hd (cs:=#[.int .i64 a0_0,.slice A0_1 l0_1.length c0_1,.slice A0_2 l0_2.length c0_2]) (t:=51) ?hr ?_;(case hd=>rfl);(case hg=>rfl);(case hr=>first|(go_simp;done)|(go_simp;rfl));intro Bb hg w13 hbox hb;have n0_:=Am (bP (by repeat (first|(with_reducible first|exact HB.out|apply oA|apply pN|apply o1)|exact HB.out)) hb);have n1_:=Am (hbox);have n2_:=Am ((by rw [hg];exact (bZ (by repeat (first|(with_reducible first|exact HB.out|apply oA|apply pN|apply o1)|exact HB.out))):w.heap.size≤Bb));have n3_:=Am ((by rw [hg];exact (bZ (by repeat (first|(with_reducible first|exact HB.out|apply oA|apply pN|apply o1)|exact HB.out))):w.heap.size≤Bb));clear HB;revert n0_ n1_ n2_ n3_;intro HB Ba Bi Be;clear hb hbox hg;have Bs:=cz0 Ba.out;have Bt:=cz1 Ba.out;have Bu:=cz2 Ba.out;have Bv:=bF Ba.out 0;have Bw:=bF Ba.out 1;have Bx:=bF Ba.out 2;have p156:0≤(a1:Int):=oE (by first|(with_reducible assumption)|assumption);have q156:a1<(l0_1.length:Int):=oE (by first|(with_reducible assumption)|assumption);obtain ⟨ad156,e156,hx156_0,hx156_1,hx156_2,hx156_3⟩:=at_T57 HR0_1.out a1 p156 q156;(try rw [← Nbq5.out] at hx156_3);cases e156;replace hx156_0:=(HB.out.cell (World.block_lt_of_cell? w _ hx156_0)).trans hx156_0;replace hx156_1:=(HB.out.cell (World.block_lt_of_cell? w _ hx156_1)).trans hx156_1;replace hx156_2:=(HB.out.cell (World.block_lt_of_cell? w _ hx156_2)).trans hx156_2;replace hx156_3:=(HB.out.cell (World.block_lt_of_cell? w _ hx156_3)).trans hx156_3;replace p156:=eq_true p156;replace q156:=eq_true q156)|((with_reducible refine gD (N:=5) rfl ?_);refine bI ?hg (N:=5) ?hd (cs:=#[.int .i64 0,.int .i64 0,.int .i64 0,.bool false]) (t:=57) ?hr ?_;(case hd=>rfl);(case hg=>rfl);(case hr=>first|(go_simp;done)|(go_simp;rfl));intro Bc hg w15 hbox hb;have n0_:=Am (bX Ba.out hb);have n1_:=Am (bP (by repeat (first|(with_reducible first|exact HB.out|apply oA|apply pN|apply o1|refine bS ?_ Be.out)|exact HB.out)) hb);have n2_:=Am (hbox);have n3_:=Am ((by rw [hg];exact (bZ (by repeat (first|(with_reducible first|exact HB.out|apply oA|apply pN|apply o1|refine bS ?_ Be.out)|exact HB.out))):w.heap.size≤Bc));have n4_:=Am ((by rw [hg];exact (bZ (by repeat (first|(with_reducible first|exact HB.out|apply oA|apply pN|apply o1|refine bS ?_ Be.out)|exact HB.out))):w.heap.size≤Bc));have n5_:=Am ((nL Ba.out hg));have n6_:=Am ((nG Ba.out hg));clear Ba HB;revert n0_ n1_ n2_ n3_ n4_ n5_ n6_;intro Ba HB Bd Bj Bh Bf Bg;clear hb hbox hg;have B2:=Bg.out;have B3:=Bf.out;have By:=cz0 Bd.out;have Bz:=cz1 Bd.out;have BA:=cz2 Bd.out;have BB:=cz3 Bd.out;have BC:=bF Bd.out 0;have BD:=bF Bd.out 1;have BE:=bF Bd.out 2;have BF:=bF Bd.out 3))
  go_ret
  exact ⟨by first|rfl|(simp [errW_none,errW_some] <;> rfl)|(simp [*,errW_none,errW_some] <;> rfl),by repeat (first|(with_reducible first|exact HB.out|apply oA|apply pN|apply o1|refine bS ?_ Be.out|refine bS ?_ Bh.out)|exact HB.out)⟩
 rw [if_neg c12] at H
 have c12b0:decide (0<((rd_T57 l0_1 a1).f0))=false:=dF c12
 clear c12
 obtain rfl:=oJ H
 go_enter Try.func61,Try.ntmps61
 go_wp2_with (first|((with_reducible refine gD (N:=2) rfl ?_);refine bI ?hg (N:=2) ?hd (cs:=#[.int .i64 a0_0,.slice A0_1 l0_1.length c0_1,.slice A0_2 l0_2.length c0_2]) (t:=51) ?hr ?_;(case hd=>rfl);(case hg=>rfl);(case hr=>first|(go_simp;done)|(go_simp;rfl));intro Bb hg w18 hbox hb;have n0_:=Am (bP (by repeat (first|(with_reducible first|exact HB.out|apply oA|apply pN|apply o1)|exact HB.out)) hb);have n1_:=Am (hbox);have n2_:=Am ((by rw [hg];exact (bZ (by repeat (first|(with_reducible first|exact HB.out|apply oA|apply pN|apply o1)|exact HB.out))):w.heap.size≤Bb));have n3_:=Am ((by rw [hg];exact (bZ (by repeat (first|(with_reducible first|exact HB.out|apply oA|apply pN|apply o1)|exact HB.out))):w.heap.size≤Bb));clear HB;revert n0_ n1_ n2_ n3_;intro HB Ba Bi Be;clear hb hbox hg;have BG:=cz0 Ba.out;have BH:=cz1 Ba.out;have BI:=cz2 Ba.out;have BJ:=bF Ba.out 0;have BK:=bF Ba.out 1;have BL:=bF Ba.out 2;have p156:0≤(a1:Int):=oE (by first|(with_reducible assumption)|assumption);have q156:a1<(l0_1.length:Int):=oE (by first|(with_reducible assumption)|assumption);obtain ⟨ad156,e156,hx156_0,hx156_1,hx156_2,hx156_3⟩:=at_T57 HR0_1.out a1 p156 q156;(try rw [← Nbq5.out] at hx156_3);cases e156;replace hx156_0:=(HB.out.cell (World.block_lt_of_cell? w _ hx156_0)).trans hx156_0;replace hx156_1:=(HB.out.cell (World.block_lt_of_cell? w _ hx156_1)).trans hx156_1;replace hx156_2:=(HB.out.cell (World.block_lt_of_cell? w _ hx156_2)).trans hx156_2;replace hx156_3:=(HB.out.cell (World.block_lt_of_cell? w _ hx156_3)).trans hx156_3;replace p156:=eq_true p156;replace q156:=eq_true q156)|((with_reducible refine gD (N:=5) rfl ?_);refine bI ?hg (N:=5) ?hd (cs:=#[.int .i64 0,.int .i64 0,.int .i64 0,.bool false]) (t:=57) ?hr ?_;(case hd=>rfl);(case hg=>rfl);(case hr=>first|(go_simp;done)|(go_simp;rfl));intro Bc hg w20 hbox hb;have n0_:=Am (bX Ba.out hb);have n1_:=Am (bP (by repeat (first|(with_reducible first|exact HB.out|apply oA|apply pN|apply o1|refine bS ?_ Be.out)|exact HB.out)) hb);have n2_:=Am (hbox);have n3_:=Am ((by rw [hg];exact (bZ (by repeat (first|(with_reducible first|exact HB.out|apply oA|apply pN|apply o1|refine bS ?_ Be.out)|exact HB.out))):w.heap.size≤Bc));have n4_:=Am ((by rw [hg];exact (bZ (by repeat (first|(with_reducible first|exact HB.out|apply oA|apply pN|apply o1|refine bS ?_ Be.out)|exact HB.out))):w.heap.size≤Bc));have n5_:=Am ((nL Ba.out hg));have n6_:=Am ((nG Ba.out hg));clear Ba HB;revert n0_ n1_ n2_ n3_ n4_ n5_ n6_;intro Ba HB Bd Bj Bh Bf Bg;clear hb hbox hg;have B4:=Bg.out;have B5:=Bf.out;have BM:=cz0 Bd.out;have BN:=cz1 Bd.out;have BO:=cz2 Bd.out;have BP:=cz3 Bd.out;have BQ:=bF Bd.out 0;have BR:=bF Bd.out 1;have BS:=bF Bd.out 2;have BT:=bF Bd.out 3))
 go_ret
 exact ⟨by first|rfl|(simp [errW_none,errW_some] <;> rfl)|(simp [*,errW_none,errW_some] <;> rfl),by repeat (first|(with_reducible first|exact HB.out|apply oA|apply pN|apply o1|refine bS ?_ Be.out|refine bS ?_ Bh.out)|exact HB.out)⟩/-! ### impl_Thread: function 66 -/
def impl_Thread.f (l0 : List (S57)) : Option ((List (S57))) := (some (([] : List (S57)) : List (S57))).bind fun y158 => (if y158.length + l0.length < 4398046511104 then (some (y158 ++ l0)) else (none))
set_option maxHeartbeats 2000000 in
set_option maxRecDepth 100000 in
theorem impl_Thread.calls (A0:Option Addr) (c0:Nat) (l0:List (S57)) (r:List (S57)) (w:World) (hr0:Kd.C k57 w A0 l0.length l0) (hc0:l0.length≤c0) (h:impl_Thread.f l0=some r) :
  Calls Try.prog 66 #[.slice A0 l0.length c0] w fun e w'=>∃ v0_:Value,e=.returned (v0_)∧Kd.R k57 57 w' w.heap.size (fun _=>True) v0_ r∧Below w.heap.size w w':=by
 cases A0 with
|none =>
  have hl_:l0=[]:=by
   rcases l0 with _|⟨x_,xs_⟩
   ·rfl
   ·exact absurd (hr0.2.2 (by simp)) (by rintro ⟨_,h_,_⟩;cases h_)
  subst hl_
  have hr_:r=[]:=by
   unfold impl_Thread.f at h
   simpa using h.symm
  subst hr_
  have q_:∀ (w:World) (a:Option Addr) (n c n' c':Nat),(binOp .eql 49 (.slice a n c) (.slice none n' c')).run Try.prog w=.ok (.bool a.isNone) w:=fun w a n c n' c'=>Lib.run_eql_slice_nil w _ _ a n c n' c' Try.underlying49
  go_enter Try.func66,Try.ntmps66
  go_wp2
  go_ret
  exact ⟨_,rfl,Kd.R_nil _ _ _ _ _,bJ _ _⟩
|some ad0_ =>
  have HR0:=Am hr0
  have HC0:=Am hc0
  clear hr0 hc0
  have HB:=Am (bJ w.heap.size w)
  have H:((some (([]:List (S57)):List (S57))).bind fun y158=>(if y158.length + l0.length<4398046511104 then (some (y158 ++ l0)) else (none)))=some r:=h
  clear h
  obtain ⟨y158,hy158⟩:∃ y_:List (S57),y_=(([]:List (S57))):=⟨_,rfl⟩
  replace H:(if y158.length + l0.length<4398046511104 then (some (y158 ++ l0)) else (none))=some r:=by first|(rw [hy158];with_reducible exact H)|(have H2_:=(Option.bind_some _ _).symm.trans H;rw [hy158];with_reducible exact H2_)|(have H2_:=(Option.bind_some _ _).symm.trans H;with_reducible exact H2_)|with_reducible exact H|(rw [hy158];exact H)|exact H
  have Ny158:=Am hy158
  clear hy158
  by_cases c2:y158.length + l0.length<4398046511104
  rotate_left
  ·rw [if_neg c2] at H
   exact absurd H (by simp)


  rw [if_pos c2] at H
  have LMc2:=Am c2
  clear c2
  obtain ⟨y161,hy161⟩:∃ y_:List (S57),y_=(y158 ++ l0):=⟨_,rfl⟩
  replace H:(some y161)=some r:=by first|(rw [hy161];with_reducible exact H)|(have H2_:=(Option.bind_some _ _).symm.trans H;rw [hy161];with_reducible exact H2_)|(have H2_:=(Option.bind_some _ _).symm.trans H;with_reducible exact H2_)|with_reducible exact H|(rw [hy161];exact H)|exact H
  have Ny161:=Am hy161
  clear hy161
  obtain rfl:=oJ H
  have q_:∀ (w:World) (a:Option Addr) (n c n' c':Nat),(binOp .eql 49 (.slice a n c) (.slice none n' c')).run Try.prog w=.ok (.bool a.isNone) w:=fun w a n c n' c'=>Lib.run_eql_slice_nil w _ _ a n c n' c' Try.underlying49
  go_enter Try.func66,Try.ntmps66
  go_wp2_with (first|((with_reducible refine gD (N:=5) rfl ?_);refine Kd.R_lit k57 _ 57 ?hg (N:=5) ?hd (xs:=([]:List (S57))) (inner:=[]) (ok:=fun _=>True) (okp:=fun _=>True) ?hr ?hp (fun _ hk=>hk) trivial (bJ _ _) (nR _) (by simp) ?_;(case hd=>rfl);(case hg=>rfl);(case hr=>first|(go_simp;done)|(go_simp;rfl));(case hp=>exact (Reps.none _ _));intro v159 w3 ho4 hb hg_ hnew_;clear hg_ hnew_;(first|rw [← Ny158.out] at ho4|(simp only [Int.reduceToNat] at ho4;rw [← Ny158.out] at ho4));have n0_:=Am (rW ho4 (bZ (by repeat (first|(with_reducible first|exact HB.out|apply oA|apply pN|apply o1)|exact HB.out))));have n1_:=Am (bP (by repeat (first|(with_reducible first|exact HB.out|apply oA|apply pN|apply o1)|exact HB.out)) hb);clear HB;revert n0_ n1_;intro Ba HB;clear hb ho4)|((with_reducible refine gate_builtin (b:=.append) (xs:=#[.tmp 5,.tmp 6]) rfl ?_);at_builtin;refine Kd.R_append_rows k57 (w0:=w) w.heap.size rfl (.tmp 5) (.tmp 6) 49 57 (.agg #[(.int .i64 0),(.int .i64 0),(.int .i64 0),(.bool false)]) 32 rfl Try.underlying49 info57 rfl (by decide) (by omega) v159 y158 l0 _ _ _ (fun _=>True) (fun _=>False) rfl rfl ?aO ?aR (fun _ _ h=>h) (fun _ h=>h.elim) ?aF ?aB ?aS ?aL ?_;(case aR=>repeat (first|exact (cB HR0.out HB.out)|(with_reducible refine cA ?_ _)|(with_reducible refine cN ?_ _)|(with_reducible refine cD ?_)));(case aB=>exact (by repeat (first|(with_reducible first|exact HB.out|apply oA|apply pN|apply o1)|exact HB.out)));(case aF=>exact (fun _ _=>trivial));(case aO=>exact (rL Ba.out));(case aS=>exact (bZ (by repeat (first|(with_reducible first|exact HB.out|apply oA|apply pN|apply o1)|exact HB.out))));(case aL=>have:=LMc2.out;omega);intro v162 w5 ho hb hg hat;rw [← Ny161.out] at ho;have n0_:=Am (hb);have n1_:=Am (ho);clear HB Ba;revert n0_ n1_;intro HB Bb;clear ho hb hg hat))
  go_ret
  exact ⟨_,by first|rfl|(simp [errW_none,errW_some] <;> rfl)|(simp [*,errW_none,errW_some] <;> rfl),by (with_reducible repeat (first|apply rA|apply rN|apply rD));exact Bb.out,by repeat (first|(with_reducible first|exact HB.out|apply oA|apply pN|apply o1)|exact HB.out)⟩/-! ### slices_Clone_int_int: function 67 -/
def slices_Clone_int_int.f (l0 : List Int) : Option (List Int) := (some (([] : List Int) : List Int)).bind fun y164 => (if y164.length + l0.length < 17592186044416 then (some (y164 ++ l0)) else (none))
set_option maxHeartbeats 2000000 in
set_option maxRecDepth 100000 in
theorem slices_Clone_int_int.calls (A0:Option Addr) (c0:Nat) (l0:List Int) (r:List Int) (w:World) (hr0:Kd.C (Kd.int .i64) w A0 l0.length l0) (hc0:l0.length≤c0) (h:slices_Clone_int_int.f l0=some r) :
  Calls Try.prog 67 #[.slice A0 l0.length c0] w fun e w'=>∃ v0_:Value,e=.returned (v0_)∧Kd.R (Kd.int .i64) 3 w' w.heap.size (fun _=>True) v0_ r∧Below w.heap.size w w':=by
 cases A0 with
|none =>
  have hl_:l0=[]:=by
   rcases l0 with _|⟨x_,xs_⟩
   ·rfl
   ·exact absurd (hr0.2.2 (by simp)) (by rintro ⟨_,h_,_⟩;cases h_)
  subst hl_
  have hr_:r=[]:=by
   unfold slices_Clone_int_int.f at h
   simpa using h.symm
  subst hr_
  have q_:∀ (w:World) (a:Option Addr) (n c n' c':Nat),(binOp .eql 24 (.slice a n c) (.slice none n' c')).run Try.prog w=.ok (.bool a.isNone) w:=fun w a n c n' c'=>Lib.run_eql_slice_nil w _ _ a n c n' c' Try.underlying24
  go_enter Try.func67,Try.ntmps67
  go_wp2
  go_ret
  exact ⟨_,rfl,Kd.R_nil _ _ _ _ _,bJ _ _⟩
|some ad0_ =>
  have HR0:=Am hr0
  have HC0:=Am hc0
  clear hr0 hc0
  have HB:=Am (bJ w.heap.size w)
  have H:((some (([]:List Int):List Int)).bind fun y164=>(if y164.length + l0.length<17592186044416 then (some (y164 ++ l0)) else (none)))=some r:=h
  clear h
  obtain ⟨y164,hy164⟩:∃ y_:List Int,y_=(([]:List Int)):=⟨_,rfl⟩
  replace H:(if y164.length + l0.length<17592186044416 then (some (y164 ++ l0)) else (none))=some r:=by first|(rw [hy164];with_reducible exact H)|(have H2_:=(Option.bind_some _ _).symm.trans H;rw [hy164];with_reducible exact H2_)|(have H2_:=(Option.bind_some _ _).symm.trans H;with_reducible exact H2_)|with_reducible exact H|(rw [hy164];exact H)|exact H
  have Ny164:=Am hy164
  clear hy164
  by_cases c2:y164.length + l0.length<17592186044416
  rotate_left
  ·rw [if_neg c2] at H
   exact absurd H (by simp)


  rw [if_pos c2] at H
  have LMc2:=Am c2
  clear c2
  obtain ⟨y167,hy167⟩:∃ y_:List Int,y_=(y164 ++ l0):=⟨_,rfl⟩
  replace H:(some y167)=some r:=by first|(rw [hy167];with_reducible exact H)|(have H2_:=(Option.bind_some _ _).symm.trans H;rw [hy167];with_reducible exact H2_)|(have H2_:=(Option.bind_some _ _).symm.trans H;with_reducible exact H2_)|with_reducible exact H|(rw [hy167];exact H)|exact H
  have Ny167:=Am hy167
  clear hy167
  obtain rfl:=oJ H
  have q_:∀ (w:World) (a:Option Addr) (n c n' c':Nat),(binOp .eql 24 (.slice a n c) (.slice none n' c')).run Try.prog w=.ok (.bool a.isNone) w:=fun w a n c n' c'=>Lib.run_eql_slice_nil w _ _ a n c n' c' Try.underlying24
  go_enter Try.func67,Try.ntmps67
  go_wp2_with (first|((with_reducible refine gD (N:=5) rfl ?_);refine Kd.R_lit (Kd.int .i64) _ 3 ?hg (N:=5) ?hd (xs:=([]:List Int)) (inner:=[]) (ok:=fun _=>True) (okp:=fun _=>True) ?hr ?hp (fun _ hk=>hk) trivial (bJ _ _) (nR _) (by simp) ?_;(case hd=>rfl);(case hg=>rfl);(case hr=>first|(go_simp;done)|(go_simp;rfl));(case hp=>exact (Reps.none _ _));intro v165 w3 ho4 hb hg_ hnew_;clear hg_ hnew_;(first|rw [← Ny164.out] at ho4|(simp only [Int.reduceToNat] at ho4;rw [← Ny164.out] at ho4));have n0_:=Am (rW ho4 (bZ (by repeat (first|(with_reducible first|exact HB.out|apply oA|apply pN|apply o1)|exact HB.out))));have n1_:=Am (bP (by repeat (first|(with_reducible first|exact HB.out|apply oA|apply pN|apply o1)|exact HB.out)) hb);clear HB;revert n0_ n1_;intro Ba HB;clear hb ho4)|((with_reducible refine gate_builtin (b:=.append) (xs:=#[.tmp 5,.tmp 6]) rfl ?_);at_builtin;refine Kd.R_append_rows (Kd.int .i64) (w0:=w) w.heap.size rfl (.tmp 5) (.tmp 6) 24 3 (.int .i64 0) 8 rfl Try.underlying24 info3 rfl (by decide) (by omega) v165 y164 l0 _ _ _ (fun _=>True) (fun _=>False) rfl rfl ?aO ?aR (fun _ _ h=>h) (fun _ h=>h.elim) ?aF ?aB ?aS ?aL ?_;(case aR=>repeat (first|exact (cB HR0.out HB.out)|(with_reducible refine cA ?_ _)|(with_reducible refine cN ?_ _)|(with_reducible refine cD ?_)));(case aB=>exact (by repeat (first|(with_reducible first|exact HB.out|apply oA|apply pN|apply o1)|exact HB.out)));(case aF=>exact (fun _ _=>trivial));(case aO=>exact (rL Ba.out));(case aS=>exact (bZ (by repeat (first|(with_reducible first|exact HB.out|apply oA|apply pN|apply o1)|exact HB.out))));(case aL=>have:=LMc2.out;omega);intro v168 w5 ho hb hg hat;rw [← Ny167.out] at ho;have n0_:=Am (hb);have n1_:=Am (ho);clear HB Ba;revert n0_ n1_;intro HB Bb;clear ho hb hg hat))
  go_ret
  exact ⟨_,by first|rfl|(simp [errW_none,errW_some] <;> rfl)|(simp [*,errW_none,errW_some] <;> rfl),by (with_reducible repeat (first|apply rA|apply rN|apply rD));exact Bb.out,by repeat (first|(with_reducible first|exact HB.out|apply oA|apply pN|apply o1)|exact HB.out)⟩/-! ### impl_Lock_clone: function 62 -/
def impl_Lock_clone.f (a0_0 : Int) (l0_1 : List (S57)) (l0_2 : List Int) : Option (Int × (List (S57)) × List Int) := (impl_Thread.f l0_1).bind fun t172 => ((slices_Clone_int_int.f l0_2).bind fun t175 => (some (a0_0, t172, t175)))
def impl_Lock_clone.T1 : Bool × List (List Nat × List Nat) := (true, [([], []), ([0], [0]), ([], []), ([2], [2]), ([3], [3]), ([], []), ([5], [5]), ([6, 4], [6]), ([1, 4, 7], [1, 4, 7]), ([8, 7, 0, 1, 2, 3, 4, 5, 6, 7, 8], [8])])
def impl_Lock_clone.B1 : List Nat := [0, 1, 0, 4, 12, 0, 32, 124, 255, 511]
theorem impl_Lock_clone.tab1 : rtab .any (opsOf Try.f62 1) = impl_Lock_clone.T1 := by kernel_rfl
theorem impl_Lock_clone.bits1 : waitsOk impl_Lock_clone.T1.2 impl_Lock_clone.B1 = true := by kernel_rfl
abbrev z62q0 : Array Bool := bQ 10 0
abbrev z62q1 : Array Bool := bQ 10 1
abbrev z62q2 : Array Bool := bQ 10 5
abbrev z62q3 : Array Bool := bQ 10 37
abbrev z62q4 : Array Bool := bQ 10 39
abbrev z62q5 : Array Bool := bQ 10 47
abbrev z62q6 : Array Bool := bQ 10 111
abbrev z62q7 : Array Bool := bQ 10 127
abbrev z62q8 : Array Bool := bQ 10 255
abbrev z62q9 : Array Bool := bQ 10 511
abbrev z62q10 : Array Bool := bQ 10 1023
set_option maxHeartbeats 2000000 in
set_option maxRecDepth 100000 in
theorem impl_Lock_clone.calls (a0_0:Int) (A0_1:Option Addr) (c0_1:Nat) (l0_1:List (S57)) (A0_2:Option Addr) (c0_2:Nat) (l0_2:List Int) (r1:Int) (r2:List (S57)) (r3:List Int) (w:World) (hr0_1:Kd.C k57 w A0_1 l0_1.length l0_1) (hc0_1:l0_1.length≤c0_1) (hr0_2:Kd.C (Kd.int .i64) w A0_2 l0_2.length l0_2) (hc0_2:l0_2.length≤c0_2) (h:impl_Lock_clone.f a0_0 l0_1 l0_2=some (r1,r2,r3)) :
  Calls Try.prog 62 #[.agg #[.int .i64 a0_0,.slice A0_1 l0_1.length c0_1,.slice A0_2 l0_2.length c0_2]] w fun e w'=>∃ v1_ v2_:Value,e=.returned (.agg #[.int .i64 r1,v1_,v2_])∧Kd.R k57 57 w' w.heap.size (fun _=>True) v1_ r2∧Kd.R (Kd.int .i64) 3 w' w.heap.size (fun _=>True) v2_ r3∧Below w.heap.size w w':=by
 have hu51:=Try.underlying51
 have HR0_1:=Am hr0_1
 have HC0_1:=Am hc0_1
 clear hr0_1 hc0_1
 have HR0_2:=Am hr0_2
 have HC0_2:=Am hc0_2
 clear hr0_2 hc0_2
 have HB:=Am (bJ w.heap.size w)
 have H:((impl_Thread.f l0_1).bind fun t172=>((slices_Clone_int_int.f l0_2).bind fun t175=>(some (a0_0,t172,t175))))=some (r1,r2,r3):=h
 clear h
 replace H:=oC H
 obtain ⟨t172,A20,H⟩:=H
 replace H:((slices_Clone_int_int.f l0_2).bind fun t175=>(some (a0_0,t172,t175)))=some (r1,r2,r3):=H
 have A2:=Am A20
 clear A20
 replace H:=oC H
 obtain ⟨t175,A30,H⟩:=H
 replace H:(some (a0_0,t172,t175))=some (r1,r2,r3):=H
 have A3:=Am A30
 clear A30
 simp only [Option.some.injEq,Prod.mk.injEq] at H
 obtain ⟨rfl,rfl,rfl⟩:=H
 go_enter Try.func62,Try.ntmps62
 try go_wp2_with (first|((with_reducible refine gD (N:=1) rfl ?_);refine bI ?hg (N:=1) ?hd (cs:=#[.int .i64 a0_0,.slice A0_1 l0_1.length c0_1,.slice A0_2 l0_2.length c0_2]) (t:=51) ?hr ?_;(case hd=>rfl);(case hg=>rfl);(case hr=>first|(go_simp;done)|(go_simp;rfl));intro Be hg w4 hbox hb;have n0_:=Am (bP (by repeat (first|(with_reducible first|exact HB.out|apply oA|apply pN|apply o1)|exact HB.out)) hb);have n1_:=Am (hbox);have n2_:=Am ((by rw [hg];exact (bZ (by repeat (first|(with_reducible first|exact HB.out|apply oA|apply pN|apply o1)|exact HB.out))):w.heap.size≤Be));have n3_:=Am ((by rw [hg];exact (bZ (by repeat (first|(with_reducible first|exact HB.out|apply oA|apply pN|apply o1)|exact HB.out))):w.heap.size≤Be));clear HB;revert n0_ n1_ n2_ n3_;intro HB Bb Bk Bf;clear hb hbox hg)|((with_reducible refine gD (N:=2) rfl ?_);refine bI ?hg (N:=2) ?hd (cs:=#[.int .i64 0,.slice none 0 0,.slice none 0 0]) (t:=51) ?hr ?_;(case hd=>rfl);(case hg=>rfl);(case hr=>first|(go_simp;done)|(go_simp;rfl));intro Ba hg w5 hbox hb;have n0_:=Am (bX Bb.out hb);have n1_:=Am (bP (by repeat (first|(with_reducible first|exact HB.out|apply oA|apply pN|apply o1|refine bS ?_ Bf.out)|exact HB.out)) hb);have n2_:=Am (hbox);have n3_:=Am ((by rw [hg];exact (bZ (by repeat (first|(with_reducible first|exact HB.out|apply oA|apply pN|apply o1|refine bS ?_ Bf.out)|exact HB.out))):w.heap.size≤Ba));have n4_:=Am ((by rw [hg];exact (bZ (by repeat (first|(with_reducible first|exact HB.out|apply oA|apply pN|apply o1|refine bS ?_ Bf.out)|exact HB.out))):w.heap.size≤Ba));have n5_:=Am ((nL Bb.out hg));have n6_:=Am ((nG Bb.out hg));clear Bb HB;revert n0_ n1_ n2_ n3_ n4_ n5_ n6_;intro Bb HB Bd Bl Bh Bc Bg;clear hb hbox hg))
 have n0_:=Am (bD Bb.out)
 have n1_:=Am (bD Bd.out)
 have n2_:=Am (o1 HB.out)
 clear Bb
 clear Bd
 clear HB
 have Bb:=n0_
 have Bd:=n1_
 have HB:=n2_
 clear n0_ n1_ n2_
 refine start_ (n:=10) (S:=fun w'=>w'.cell? ⟨Be,0,none⟩=some (.int .i64 a0_0)∧w'.cell? ⟨Be,1,none⟩=some (.slice A0_1 l0_1.length c0_1)∧w'.cell? ⟨Be,2,none⟩=some (.slice A0_2 l0_2.length c0_2)) (ds:=[]) z62q0 (by kernel_rfl) rfl rfl ⟨(bC Bb.out 0).trans rfl,(bC Bb.out 1).trans rfl,(bC Bb.out 2).trans rfl⟩ (fun hHeld=>?_);refine with_st impl_Lock_clone.tab1 impl_Lock_clone.bits1 (fun _ _ _ _ _ h=>h) (fun HT_=>?_)
 generalize w5.drew=w6 at Bb Bd HB hHeld ⊢
 refine pS 0 3 z62q1 HT_ rfl rfl (by kernel_rfl) (by rfl) (by intro w';go_simp;with_reducible rfl) (by simp only [Act.put,lA,lZ,lS,iw,jw];rfl) ?_
 refine pS 2 5 z62q2 HT_ rfl rfl (by kernel_rfl) (by rfl) (by intro w';go_simp;with_reducible rfl) (by simp only [Act.put,lA,lZ,lS,iw,jw];rfl) ?_
 refine pS 5 8 z62q3 HT_ rfl rfl (by kernel_rfl) (by rfl) (by intro w';go_simp;with_reducible rfl) (by simp only [Act.put,lA,lZ,lS,iw,jw];rfl) ?_
 refine tS 1 4 z62q4 HT_ hHeld rfl rfl (by kernel_rfl) (by rfl) (by rintro w' ⟨s0,s1,s2⟩;go_simp;with_reducible rfl) (by simp only [Act.put,lA,lZ,lS,iw,jw];rfl) ?_
 refine tS 3 6 z62q5 HT_ hHeld rfl rfl (by kernel_rfl) (by rfl) (by rintro w' ⟨s0,s1,s2⟩;go_simp;with_reducible rfl) (by simp only [Act.put,lA,lZ,lS,iw,jw];rfl) ?_
 refine tS 6 9 z62q6 HT_ hHeld rfl rfl (by kernel_rfl) (by rfl) (by rintro w' ⟨s0,s1,s2⟩;go_simp;with_reducible rfl) (by simp only [Act.put,lA,lZ,lS,iw,jw];rfl) ?_
 refine oS 4 7 z62q7 HT_ rfl rfl (by kernel_rfl) (by decide) (fun K hK=>?_)
 refine goes_ Try.func66 (by kernel_rfl) rfl #[.slice A0_1 l0_1.length c0_1] (by rfl) rfl rfl (by (try simp only [lM,lC,lN]);first|done|rfl|(simp only [lD,lT];rfl)) ?_
 with_reducible refine (impl_Thread.calls _ _ l0_1 t172 _ ?side1 ?side2 A2.out).mono ?_
 (case side1=>exact cL (cB HR0_1.out HB.out))
 (case side2=>exact HC0_1.out)
 rintro e w7 ⟨v173,rfl,ho0,hb⟩
 refine ⟨_,rfl,?_⟩
 have n0_:=Am (rW ho0 (bZ (by repeat (first|(with_reducible first|exact HB.out|apply oA|apply pN|apply o1|refine bS ?_ Bf.out|refine bS ?_ Bh.out)|exact HB.out))))
 have n1_:=Am (bX Bb.out hb)
 have n2_:=Am (bX Bd.out hb)
 have n3_:=Am (bP (by repeat (first|(with_reducible first|exact HB.out|apply oA|apply pN|apply o1|refine bS ?_ Bf.out|refine bS ?_ Bh.out)|exact HB.out)) hb)
 clear Bb
 clear Bd
 clear HB
 have Bi:=n0_
 have Bb:=n1_
 have Bd:=n2_
 have HB:=n3_
 clear n0_ n1_ n2_ n3_
 (try clear hb)
 (try clear hb2)
 (try clear hk)
 (try clear hi)
 (try clear ho0)
 refine hK.out _ _ ⟨(bC Bb.out 0).trans rfl,(bC Bb.out 1).trans rfl,(bC Bb.out 2).trans rfl⟩ (fun hHeld=>?_)
 clear hK K
 refine norm_ (by show Act.put _ (some 7) _=_;simp only [Act.put,lA,lZ,lS,iw,jw];rfl) ?_
 refine oS 7 10 z62q8 HT_ rfl rfl (by kernel_rfl) (by decide) (fun K hK=>?_)
 refine goes_ Try.func67 (by kernel_rfl) rfl #[.slice A0_2 l0_2.length c0_2] (by rfl) rfl rfl (by (try simp only [lM,lC,lN]);first|done|rfl|(simp only [lD,lT];rfl)) ?_
 with_reducible refine (slices_Clone_int_int.calls _ _ l0_2 t175 _ ?side1 ?side2 A3.out).mono ?_
 (case side1=>exact cL (cB HR0_2.out HB.out))
 (case side2=>exact HC0_2.out)
 rintro e w8 ⟨v176,rfl,ho0,hb⟩
 refine ⟨_,rfl,?_⟩
 have n0_:=Am (rB (rL Bi.out) hb)
 have n1_:=Am (rW ho0 (bZ (by repeat (first|(with_reducible first|exact HB.out|apply oA|apply pN|apply o1|refine bS ?_ Bf.out|refine bS ?_ Bh.out)|exact HB.out))))
 have n2_:=Am (bX Bb.out hb)
 have n3_:=Am (bX Bd.out hb)
 have n4_:=Am (bP (by repeat (first|(with_reducible first|exact HB.out|apply oA|apply pN|apply o1|refine bS ?_ Bf.out|refine bS ?_ Bh.out)|exact HB.out)) hb)
 clear Bi
 clear Bb
 clear Bd
 clear HB
 have Bi:=n0_
 have Bj:=n1_
 have Bb:=n2_
 have Bd:=n3_
 have HB:=n4_
 clear n0_ n1_ n2_ n3_ n4_
 (try clear hb)
 (try clear hb2)
 (try clear hk)
 (try clear hi)
 (try clear ho0)
 obtain ⟨Ao9,co9,eo9⟩:=rC Bj.out
 (first|subst eo9|(injection eo9 with f1_ f2_ f3_;have f4_:=f1_.symm;have f5_:=f3_.symm;clear f1_ f2_ f3_;subst f4_;subst f5_))
 obtain ⟨Ao10,co10,eo10⟩:=rC Bi.out
 (first|subst eo10|(injection eo10 with f1_ f2_ f3_;have f4_:=f1_.symm;have f5_:=f3_.symm;clear f1_ f2_ f3_;subst f4_;subst f5_))
 refine hK.out _ _ ⟨(bC Bb.out 0).trans rfl,(bC Bb.out 1).trans rfl,(bC Bb.out 2).trans rfl⟩ (fun hHeld=>?_)
 clear hK K
 refine norm_ (by show Act.put _ (some 10) _=_;simp only [Act.put,lA,lZ,lS,iw,jw];rfl) ?_
 refine pS 8 11 z62q9 HT_ rfl rfl (by kernel_rfl) (by rfl) (by intro w';go_simp;with_reducible rfl) (by simp only [Act.put,lA,lZ,lS,iw,jw];rfl) ?_
 refine oU 9 none z62q10 HT_ rfl rfl (by kernel_rfl) (by decide) (fun K hK=>?_)
 have hs11:=cz0 Bd.out
 have hfs11:=bF Bd.out 0
 have hns11_0:=Bc.out
 have hms11_0:=Bg.out
 have hs12:=cz1 Bd.out
 have hfs12:=bF Bd.out 1
 have hns12_0:=Bc.out
 have hms12_0:=Bg.out
 have hs13:=cz2 Bd.out
 have hfs13:=bF Bd.out 2
 have hns13_0:=Bc.out
 have hms13_0:=Bg.out
 refine skip_ (w1:=?_) (by rfl) rfl ?_ ?_
 rotate_left;(go_simp;rfl)
 refine hK.out _ _ ⟨((cF (p:=⟨Ba,_,none⟩) Bc.out _).trans (((cF (p:=⟨Ba,_,none⟩) Bc.out _).trans (((cF (p:=⟨Ba,_,none⟩) Bc.out _).trans (hHeld.1)))))),((cF (p:=⟨Ba,_,none⟩) Bc.out _).trans (((cF (p:=⟨Ba,_,none⟩) Bc.out _).trans (((cF (p:=⟨Ba,_,none⟩) Bc.out _).trans (hHeld.2.1)))))),((cF (p:=⟨Ba,_,none⟩) Bc.out _).trans (((cF (p:=⟨Ba,_,none⟩) Bc.out _).trans (((cF (p:=⟨Ba,_,none⟩) Bc.out _).trans (hHeld.2.2))))))⟩ (fun hHeld=>?_)
 clear hK K
 refine done_ (done_of HT_.out (by kernel_rfl)) ?_
 try go_wp2
 refine bodyPost_ret (results_cell_row rfl _ _ Ba 51 #[.int .i64 a0_0,.slice Ao10 t172.length co10,.slice Ao9 t175.length co9] (0,0) _ rfl (by (with_reducible repeat (first|refine bN ?_ _|refine bD ?_|refine bA ?_ _));refine bT (cs:=#[.int .i64 a0_0,.slice Ao10 t172.length co10,.slice none 0 0]) ?_ 2 _ rfl;(with_reducible repeat (first|refine bN ?_ _|refine bD ?_|refine bA ?_ _));refine bT (cs:=#[.int .i64 a0_0,.slice none 0 0,.slice none 0 0]) ?_ 1 _ rfl;(with_reducible repeat (first|refine bN ?_ _|refine bD ?_|refine bA ?_ _));refine bT (cs:=#[.int .i64 0,.slice none 0 0,.slice none 0 0]) ?_ 0 _ rfl;(with_reducible repeat (first|refine bN ?_ _|refine bD ?_|refine bA ?_ _));exact Bd.out) Try.underlying51 rfl (by kernel_rfl)) rfl ?_
 exact ⟨_,_,by first|rfl|(simp [errW_none,errW_some] <;> rfl)|(simp [*,errW_none,errW_some] <;> rfl),by (with_reducible repeat (first|apply rA|apply rN|apply rD));exact rM (rF (p:=⟨Ba,2,none⟩) (rF (p:=⟨Ba,1,none⟩) (rF (p:=⟨Ba,0,none⟩) (rT Bi.out Bd.out (by decide)) (fun _ hk=>hk.2) (.int .i64 a0_0)) (fun _ hk=>hk.2) (.slice Ao10 t172.length co10)) (fun _ hk=>hk.2) (.slice Ao9 t175.length co9)) (fun _ hk=>trivial),by (with_reducible repeat (first|apply rA|apply rN|apply rD));exact rM (rF (p:=⟨Ba,2,none⟩) (rF (p:=⟨Ba,1,none⟩) (rF (p:=⟨Ba,0,none⟩) (rT Bj.out Bd.out (by decide)) (fun _ hk=>hk.2) (.int .i64 a0_0)) (fun _ hk=>hk.2) (.slice Ao10 t172.length co10)) (fun _ hk=>hk.2) (.slice Ao9 t175.length co9)) (fun _ hk=>trivial),by repeat (first|(with_reducible first|exact HB.out|apply oA|apply pN|apply o1|refine bS ?_ Bf.out|refine bS ?_ Bh.out)|exact HB.out)⟩

end Go.Proofs.Ytpdfkbggaihfpaa.PFnLockWord
