/- Proved here, without a condition beyond those that each theorem states: what the Go functions named below do is what the plain functions of the same names say. Written by xprint.py, a program of this session. -/
import Derived.Test.YtpdfkbggaihfpaaPFnLockWordx0
import Derived.Test.YtpdfkbggaihfpaaPFnLockWordx3
namespace Go.Proofs.Ytpdfkbggaihfpaa.PFnLockWord
open Go.RowKit Go.Proofs.YtpdfkbggaihfpaaW.PrintWords Go.Proofs.YtpdfkbggaihfpaaW.PrintLast Go.Proofs.YtpdfkbggaihfpaaW.PrintMore
attribute [local go_sem] max2_int min2_int max_two min_two max_three min_three max_four min_four   -- for this text's walks alone
set_option linter.unusedVariables false
set_option linter.unusedSimpArgs false

attribute [local go_sem ↓] isSome_setCell_
/-! ### spec_LockNew: function 34 -/
mutual
def spec_LockNew.j0 : Nat → Int → Int → Bool → Option (Int × (List (S57)) × List Int × Bool)
|0, _, _, _ => none
|k + 1, x0, x1, x15 => if x15 = true then (some (0, ([] : List (S57)), ([] : List Int), false)) else (spec_LockNew.l0 k x0 x1 0 0 (([] : List (S57))) (([] : List Int)))
def spec_LockNew.l0 : Nat → Int → Int → Int → Int → List (S57) → List Int → Option (Int × (List (S57)) × List Int × Bool)
|0, _, _, _, _, _, _ => none
|k + 1, x0, x1, x7, x132000, x132001, x132002 => if x7 < x0 then (if x132001.length < 4398046511104 then (spec_LockNew.l0 k x0 x1 (wrap64 (x7 + 1)) x132000 (x132001 ++ [(⟨0, 0, x1, false⟩ : S57)]) x132002) else (none)) else (some (x132000, x132001, x132002, true))
end
def spec_LockNew.f (k : Nat) (a0 : Int) (a1 : Int) : Option (Int × (List (S57)) × List Int × Bool) := (spec_l6In.f a0 1 4).bind fun t123 => (if t123 = true then ((spec_l6In.f a1 0 3).bind fun t124 => (spec_LockNew.j0 k a0 a1 (!t124))) else (spec_LockNew.j0 k a0 a1 true))
theorem spec_LockNew.mono_l : ∀ k, (∀ y0 y1 y2, LeO (spec_LockNew.j0 k y0 y1 y2) (spec_LockNew.j0 (k + 1) y0 y1 y2)) ∧ (∀ y0 y1 y2 y3 y4 y5, LeO (spec_LockNew.l0 k y0 y1 y2 y3 y4 y5) (spec_LockNew.l0 (k + 1) y0 y1 y2 y3 y4 y5))
|0 => ⟨fun _ _ _ r h => by simp [spec_LockNew.j0] at h, fun _ _ _ _ _ _ r h => by simp [spec_LockNew.l0] at h⟩
|k + 1 => by
  obtain ⟨ih0, ih1⟩ := spec_LockNew.mono_l k
  refine ⟨?_, ?_⟩
  ·intro y0 y1 y2
   unfold spec_LockNew.j0
   repeat' first
  |(with_reducible exact ih0 _ _ _)
  |(with_reducible exact ih1 _ _ _ _ _ _)
  |(with_reducible exact LeO.refl _)
  |(with_reducible exact LeO.none _)
  |(with_reducible refine LeO.ite ?_ ?_)
  |(with_reducible refine LeO.bind ?_ (fun _ => ?_))
  |exact ih0 _ _ _
  |exact ih1 _ _ _ _ _ _
  |exact LeO.none _
  |refine LeO.ite ?_ ?_
  |refine LeO.bind ?_ (fun _ => ?_)
  ·intro y0 y1 y2 y3 y4 y5
   unfold spec_LockNew.l0
   repeat' first
  |(with_reducible exact ih0 _ _ _)
  |(with_reducible exact ih1 _ _ _ _ _ _)
  |(with_reducible exact LeO.refl _)
  |(with_reducible exact LeO.none _)
  |(with_reducible refine LeO.ite ?_ ?_)
  |(with_reducible refine LeO.bind ?_ (fun _ => ?_))
  |exact ih0 _ _ _
  |exact ih1 _ _ _ _ _ _
  |exact LeO.none _
  |refine LeO.ite ?_ ?_
  |refine LeO.bind ?_ (fun _ => ?_)
theorem spec_LockNew.mono : ∀ a0 a1 k, LeO (spec_LockNew.f k a0 a1) (spec_LockNew.f (k + 1) a0 a1) := by
 intro a0 a1 k
 obtain ⟨ih0, ih1⟩ := spec_LockNew.mono_l k
 unfold spec_LockNew.f
 repeat' first
  |(with_reducible exact ih0 _ _ _)
  |(with_reducible exact ih1 _ _ _ _ _ _)
  |(with_reducible exact LeO.refl _)
  |(with_reducible exact LeO.none _)
  |(with_reducible refine LeO.ite ?_ ?_)
  |(with_reducible refine LeO.bind ?_ (fun _ => ?_))
  |exact ih0 _ _ _
  |exact ih1 _ _ _ _ _ _
  |exact LeO.none _
  |refine LeO.ite ?_ ?_
  |refine LeO.bind ?_ (fun _ => ?_)
set_option maxHeartbeats 2000000 in
set_option maxRecDepth 100000 in
theorem spec_LockNew.calls (k:Nat) (a0:Int) (a1:Int) (r1:Int) (r2:List (S57)) (r3:List Int) (r4:Bool) (w:World) (h:spec_LockNew.f k a0 a1=some (r1,r2,r3,r4)) :
  Calls Try.prog 34 #[.int .i64 a0,.int .i64 a1] w fun e w'=>∃ v1_ v2_:Value,e=.returned (.tuple #[.agg #[.int .i64 r1,v1_,v2_],.bool r4])∧Kd.R k57 57 w' w.heap.size (fun _=>True) v1_ r2∧Kd.R (Kd.int .i64) 3 w' w.heap.size (fun _=>True) v2_ r3∧Below w.heap.size w w':=by
 have hu51:=Try.underlying51
 have hu57:=Try.underlying57
 have HB:=Am (bJ w.heap.size w)
 have H:((spec_l6In.f a0 1 4).bind fun t123=>(if t123=true then ((spec_l6In.f a1 0 3).bind fun t124=>(spec_LockNew.j0 k a0 a1 (!t124))) else (spec_LockNew.j0 k a0 a1 true)))=some (r1,r2,r3,r4):=h
 clear h
 have HC3:=Am H
 clear H
 go_enter Try.func34,Try.ntmps34
 go_upto_region 1 with (first|((with_reducible refine gD (N:=4) rfl ?_);refine bI ?hg (N:=4) ?hd (cs:=#[.int .i64 0,.slice none 0 0,.slice none 0 0]) (t:=51) ?hr ?_;(case hd=>rfl);(case hg=>rfl);(case hr=>first|(go_simp;done)|(go_simp;rfl));intro Bc hg w4 hbox hb;have n0_:=Am (bP (by repeat (first|(with_reducible first|exact HB.out|apply oA|apply pN|apply o1)|exact HB.out)) hb);have n1_:=Am (hbox);have n2_:=Am ((by rw [hg];exact (bZ (by repeat (first|(with_reducible first|exact HB.out|apply oA|apply pN|apply o1)|exact HB.out))):w.heap.size≤Bc));have n3_:=Am ((by rw [hg];exact (bZ (by repeat (first|(with_reducible first|exact HB.out|apply oA|apply pN|apply o1)|exact HB.out))):w.heap.size≤Bc));clear HB;revert n0_ n1_ n2_ n3_;intro HB Ba BY Be;clear hb hbox hg))
 (try simp only [Act.put,lA,lZ,lS])
 go_cut [15] (fun v15 wc=>∃ (kq:Nat) (x15_2:Bool),v15=.bool x15_2∧Aside0 (spec_LockNew.j0 kq a0 a1 x15_2=some (r1,r2,r3,r4))∧Aside0 (kq≤k)∧Aside0 (wc.heap[Bc]?=some (.cells #[.int .i64 0,(.slice none 0 0),(.slice none 0 0)] 51 (0,0)))∧Aside0 (Below w.heap.size w wc))
 case first =>
  have H:=HC3.out
  clear HC3
  replace H:=oC H
  obtain ⟨t123,A50,H⟩:=H
  replace H:(if t123=true then ((spec_l6In.f a1 0 3).bind fun t124=>(spec_LockNew.j0 k a0 a1 (!t124))) else (spec_LockNew.j0 k a0 a1 true))=some (r1,r2,r3,r4):=H
  have A5:=Am A50
  clear A50
  by_cases c6:t123=true
  rotate_left
  ·replace c6:=Bool.eq_false_iff.mpr c6
   subst c6
   have H1:(spec_LockNew.j0 k a0 a1 true)=some (r1,r2,r3,r4):=by rw [if_neg (show ¬ (false=true) by decide)] at H;exact H
   clear H
   have H:=H1
   clear H1
   have H':=Am H
   clear H
   go_wp2_with (first|((with_reducible refine gC (f:=51) rfl ?_);refine goesL_ (some 9) rfl rfl Try.func51 (by kernel_rfl) rfl #[.int .i64 a0,.int .i64 1,.int .i64 4] rfl (by (try simp only [lM,lC,lN]);first|done|rfl|(simp only [lD,lT];rfl)) ?_;(with_reducible refine (spec_l6In.calls a0 1 4 false _ A5.out).mono ?_);rintro e w' ⟨rfl,⟨nd,rfl⟩⟩;refine ⟨_,rfl,?_⟩))
   go_meet
   case rel=>exact ⟨_,(true),(by first|rfl|(simp;done)|(simp [*];done)),H',⟨by first|omega|exact nR _⟩,⟨by (with_reducible repeat (first|refine bN ?_ _|refine bD ?_|refine bA ?_ _));exact Ba.out⟩,⟨by repeat (first|(with_reducible first|exact HB.out|apply oA|apply pN|apply o1|refine bS ?_ Be.out)|exact HB.out)⟩⟩
  subst c6
  have H1:((spec_l6In.f a1 0 3).bind fun t124=>(spec_LockNew.j0 k a0 a1 (!t124)))=some (r1,r2,r3,r4):=by rw [if_pos rfl] at H;exact H
  clear H
  have H:=H1
  clear H1
  replace H:=oC H
  obtain ⟨t124,A70,H⟩:=H
  replace H:(spec_LockNew.j0 k a0 a1 (!t124))=some (r1,r2,r3,r4):=H
  have A7:=Am A70
  clear A70
  have H':=Am H
  clear H
  go_wp2_with (first|((with_reducible refine gC (f:=51) rfl ?_);refine goesL_ (some 9) rfl rfl Try.func51 (by kernel_rfl) rfl #[.int .i64 a0,.int .i64 1,.int .i64 4] rfl (by (try simp only [lM,lC,lN]);first|done|rfl|(simp only [lD,lT];rfl)) ?_;(with_reducible refine (spec_l6In.calls a0 1 4 true _ A5.out).mono ?_);rintro e w' ⟨rfl,⟨nd,rfl⟩⟩;refine ⟨_,rfl,?_⟩)|(go_at_call 51;(with_reducible refine (spec_l6In.calls a1 0 3 t124 _ A7.out).mono ?_);rintro e w' ⟨rfl,⟨nd,rfl⟩⟩))
  go_meet
  case rel=>exact ⟨_,(!t124),(by first|rfl|(simp;done)|(simp [*];done)),H',⟨by first|omega|exact nR _⟩,⟨by (with_reducible repeat (first|refine bN ?_ _|refine bD ?_|refine bA ?_ _));exact Ba.out⟩,⟨by repeat (first|(with_reducible first|exact HB.out|apply oA|apply pN|apply o1|refine bS ?_ Be.out)|exact HB.out)⟩⟩
 case rest =>
  clear HC3
  try clear p2
  try clear c3
  try clear c5
  try clear c6
  obtain ⟨kq,x15_2,rfl,HA,Bz,Ba,HB⟩:=hcut
  cases kq with
 |zero=>exact absurd HA.out (by simp [spec_LockNew.j0])
 |succ kj2 =>
   have H:=HA.out
   clear HA
   simp only [spec_LockNew.j0] at H
   by_cases c8:x15_2=true
   ·subst c8
    have H1:(some (0,([]:List (S57)),([]:List Int),false))=some (r1,r2,r3,r4):=by rw [if_pos rfl] at H;exact H
    clear H
    have H:=H1
    clear H1
    simp only [Option.some.injEq,Prod.mk.injEq] at H
    obtain ⟨rfl,rfl,rfl,rfl⟩:=H
    have Bt:=cz0 Ba.out
    have Bu:=cz1 Ba.out
    have Bv:=cz2 Ba.out
    have Bw:=bF Ba.out 0
    have Bx:=bF Ba.out 1
    have By:=bF Ba.out 2
    go_wp2
    refine bodyPost_ret (results_ct rfl _ _ Bc 51 #[.int .i64 0,.slice none 0 0,.slice none 0 0] (0,0) _ rfl (by (with_reducible repeat (first|refine bN ?_ _|refine bD ?_|refine bA ?_ _));refine bT (cs:=#[.int .i64 0,.slice none 0 0,.slice none 0 0]) ?_ 2 _ rfl;(with_reducible repeat (first|refine bN ?_ _|refine bD ?_|refine bA ?_ _));refine bT (cs:=#[.int .i64 0,.slice none 0 0,.slice none 0 0]) ?_ 1 _ rfl;(with_reducible repeat (first|refine bN ?_ _|refine bD ?_|refine bA ?_ _));refine bT (cs:=#[.int .i64 0,.slice none 0 0,.slice none 0 0]) ?_ 0 _ rfl;(with_reducible repeat (first|refine bN ?_ _|refine bD ?_|refine bA ?_ _));exact Ba.out) Try.underlying51 rfl (by kernel_rfl)) rfl ?_
    exact ⟨_,_,by first|rfl|(simp [errW_none,errW_some] <;> rfl)|(simp [*,errW_none,errW_some] <;> rfl),by first|exact Kd.R_nil _ _ _ _ _|exact Kd.N_nil _ _ _ _ _|exact Kd.V_nil _ _ _ _ _|exact Kd.Q_nil _ _ _ _ _|exact Kd.S_nil _ _ _ _ _,by first|exact Kd.R_nil _ _ _ _ _|exact Kd.N_nil _ _ _ _ _|exact Kd.V_nil _ _ _ _ _|exact Kd.Q_nil _ _ _ _ _|exact Kd.S_nil _ _ _ _ _,by repeat (first|(with_reducible first|exact HB.out|apply oA|apply pN|apply o1|refine bS ?_ Be.out)|exact HB.out)⟩
   replace c8:=Bool.eq_false_iff.mpr c8
   subst c8
   have H1:(spec_LockNew.l0 kj2 a0 a1 0 0 (([]:List (S57))) (([]:List Int)))=some (r1,r2,r3,r4):=by rw [if_neg (show ¬ (false=true) by decide)] at H;exact H
   clear H
   have H:=H1
   clear H1
   obtain ⟨y125,hy125⟩:∃ y_:List (S57),y_=(([]:List (S57))):=⟨_,rfl⟩
   replace H:(spec_LockNew.l0 kj2 a0 a1 0 0 y125 (([]:List Int)))=some (r1,r2,r3,r4):=by first|(rw [hy125];with_reducible exact H)|(have H2_:=(Option.bind_some _ _).symm.trans H;rw [hy125];with_reducible exact H2_)|(have H2_:=(Option.bind_some _ _).symm.trans H;with_reducible exact H2_)|with_reducible exact H|(rw [hy125];exact H)|exact H
   have Ny125:=Am hy125
   clear hy125
   obtain ⟨y128,hy128⟩:∃ y_:List Int,y_=(([]:List Int)):=⟨_,rfl⟩
   replace H:(spec_LockNew.l0 kj2 a0 a1 0 0 y125 y128)=some (r1,r2,r3,r4):=by first|(rw [hy128];with_reducible exact H)|(have H2_:=(Option.bind_some _ _).symm.trans H;rw [hy128];with_reducible exact H2_)|(have H2_:=(Option.bind_some _ _).symm.trans H;with_reducible exact H2_)|with_reducible exact H|(rw [hy128];exact H)|exact H
   have Ny128:=Am hy128
   clear hy128
   have H':=Am H
   clear H
   go_wp2_with (first|((with_reducible refine gD (N:=17) rfl ?_);refine Kd.R_lit k57 _ 57 ?hg (N:=17) ?hd (xs:=([]:List (S57))) (inner:=[]) (ok:=fun _=>True) (okp:=fun _=>True) ?hr ?hp (fun _ hk=>hk) trivial (bJ _ _) (nR _) (by simp) ?_;(case hd=>rfl);(case hg=>rfl);(case hr=>first|(go_simp;done)|(go_simp;rfl));(case hp=>exact (Reps.none _ _));intro v126 w10 ho11 hb hg_ hnew_;clear hg_ hnew_;(first|rw [← Ny125.out] at ho11|(simp only [Int.reduceToNat] at ho11;rw [← Ny125.out] at ho11));have n0_:=Am (rW ho11 (bZ (by repeat (first|(with_reducible first|exact HB.out|apply oA|apply pN|apply o1|refine bS ?_ Be.out)|exact HB.out))));have n1_:=Am (bX Ba.out hb);have n2_:=Am (bP (by repeat (first|(with_reducible first|exact HB.out|apply oA|apply pN|apply o1|refine bS ?_ Be.out)|exact HB.out)) hb);clear Ba HB;revert n0_ n1_ n2_;intro Bi Ba HB;clear hb ho11)|((with_reducible refine gD (N:=18) rfl ?_);refine Kd.R_lit (Kd.int .i64) _ 3 ?hg (N:=18) ?hd (xs:=([]:List Int)) (inner:=[]) (ok:=fun _=>True) (okp:=fun _=>True) ?hr ?hp (fun _ hk=>hk) trivial (bJ _ _) (nR _) (by simp) ?_;(case hd=>rfl);(case hg=>rfl);(case hr=>first|(go_simp;done)|(go_simp;rfl));(case hp=>exact (Reps.none _ _));intro v129 w12 ho13 hb hg_ hnew_;clear hg_ hnew_;(first|rw [← Ny128.out] at ho13|(simp only [Int.reduceToNat] at ho13;rw [← Ny128.out] at ho13));have n0_:=Am (rB (rL Bi.out) hb);have n1_:=Am (rW ho13 (bZ (by repeat (first|(with_reducible first|exact HB.out|apply oA|apply pN|apply o1|refine bS ?_ Be.out)|exact HB.out))));have n2_:=Am (bX Ba.out hb);have n3_:=Am (bP (by repeat (first|(with_reducible first|exact HB.out|apply oA|apply pN|apply o1|refine bS ?_ Be.out)|exact HB.out)) hb);clear Bi Ba HB;revert n0_ n1_ n2_ n3_;intro Bi Bk Ba HB;clear hb ho13;obtain ⟨Ao14,co14,eo14⟩:=rC Bk.out;subst eo14;obtain ⟨Ao15,co15,eo15⟩:=rC Bi.out;subst eo15)|((with_reducible refine gD (N:=6) rfl ?_);refine bI ?hg (N:=6) ?hd (cs:=#[.int .i64 0,.slice none 0 0,.slice none 0 0]) (t:=51) ?hr ?_;(case hd=>rfl);(case hg=>rfl);(case hr=>first|(go_simp;done)|(go_simp;rfl));intro Bd hg w16 hbox hb;have n0_:=Am (rB (rL Bi.out) hb);have n1_:=Am (rB (rL Bk.out) hb);have n2_:=Am (bX Ba.out hb);have n3_:=Am (bP (by repeat (first|(with_reducible first|exact HB.out|apply oA|apply pN|apply o1|refine bS ?_ Be.out)|exact HB.out)) hb);have n4_:=Am (hbox);have n5_:=Am ((by rw [hg];exact (bZ (by repeat (first|(with_reducible first|exact HB.out|apply oA|apply pN|apply o1|refine bS ?_ Be.out)|exact HB.out))):w.heap.size≤Bd));have n6_:=Am ((by rw [hg];exact (bZ (by repeat (first|(with_reducible first|exact HB.out|apply oA|apply pN|apply o1|refine bS ?_ Be.out)|exact HB.out))):w.heap.size≤Bd));have n7_:=Am ((nL Ba.out hg));have n8_:=Am ((nG Ba.out hg));clear Bi Bk Ba HB;revert n0_ n1_ n2_ n3_ n4_ n5_ n6_ n7_ n8_;intro Bi Bk Ba HB Bb BZ Bl Bg Bj;clear hb hbox hg;have B0:=Bj.out;have B1:=Bg.out;have Bn:=cz0 Bb.out;have Bo:=cz1 Bb.out;have Bp:=cz2 Bb.out;have Bq:=bF Bb.out 0;have Br:=bF Bb.out 1;have Bs:=bF Bb.out 2))
   go_loopg [7] kj2 (fun kq v7 w'=>∃ (x7_2:Int) (x132001_2:List (S57)) (u132001:Value),v7=.int .i64 x7_2∧Aside0 (spec_LockNew.l0 kq a0 a1 x7_2 0 x132001_2 y128=some (r1,r2,r3,r4))∧Aside0 (kq≤kj2)∧Aside0 (Kd.R k57 57 w' w.heap.size (fun _=>True) u132001 x132001_2)∧Aside0 (Kd.R (Kd.int .i64) 3 w' w.heap.size (fun _=>True) (.slice Ao14 y128.length co14) y128)∧Aside0 (w'.heap[Bc]?=some (.cells #[.int .i64 0,(.slice none 0 0),(.slice none 0 0)] 51 (0,0)))∧Aside0 (w'.heap[Bd]?=some (.cells #[.int .i64 0,u132001,(.slice Ao14 y128.length co14)] 51 (0,0)))∧Aside0 (Below w.heap.size w w'))
   case atStart=>exact ⟨(0),(y125),(.slice Ao15 y125.length co15),(by first|rfl|(simp;done)|(simp [*];done)),H',⟨nR _⟩,⟨by (with_reducible repeat (first|apply rA|apply rN|apply rD));exact rM (rF (p:=⟨Bd,2,none⟩) (rF (p:=⟨Bd,1,none⟩) (rF (p:=⟨Bd,0,none⟩) (rT Bi.out Bb.out (by decide)) (fun _ hk=>hk.2) (.int .i64 0)) (fun _ hk=>hk.2) (.slice Ao15 y125.length co15)) (fun _ hk=>hk.2) (.slice Ao14 y128.length co14)) (fun _ hk=>trivial)⟩,⟨by (with_reducible repeat (first|apply rA|apply rN|apply rD));exact rM (rF (p:=⟨Bd,2,none⟩) (rF (p:=⟨Bd,1,none⟩) (rF (p:=⟨Bd,0,none⟩) (rT Bk.out Bb.out (by decide)) (fun _ hk=>hk.2) (.int .i64 0)) (fun _ hk=>hk.2) (.slice Ao15 y125.length co15)) (fun _ hk=>hk.2) (.slice Ao14 y128.length co14)) (fun _ hk=>trivial)⟩,⟨by (with_reducible repeat (first|refine bN ?_ _|refine bD ?_|refine bA ?_ _|refine bE ?_ Bg.out _));exact Ba.out⟩,⟨by (with_reducible repeat (first|refine bN ?_ _|refine bD ?_|refine bA ?_ _));refine bT (cs:=#[.int .i64 0,.slice Ao15 y125.length co15,.slice none 0 0]) ?_ 2 _ rfl;(with_reducible repeat (first|refine bN ?_ _|refine bD ?_|refine bA ?_ _));refine bT (cs:=#[.int .i64 0,.slice none 0 0,.slice none 0 0]) ?_ 1 _ rfl;(with_reducible repeat (first|refine bN ?_ _|refine bD ?_|refine bA ?_ _));refine bT (cs:=#[.int .i64 0,.slice none 0 0,.slice none 0 0]) ?_ 0 _ rfl;(with_reducible repeat (first|refine bN ?_ _|refine bD ?_|refine bA ?_ _));exact Bb.out⟩,⟨by repeat (first|(with_reducible first|exact HB.out|apply oA|apply pN|apply o1|refine bS ?_ Be.out|refine bS ?_ Bl.out)|exact HB.out)⟩⟩
   case round =>
    clear H'
    try clear c1
    try clear p2
    try clear c3
    try clear c5
    try clear c6
    try clear c8
    try clear c17
    try clear Bn
    try clear Bo
    try clear Bp
    try clear Bt
    try clear Bu
    try clear Bv
    try clear Bq
    try clear Br
    try clear Bs
    try clear Bw
    try clear Bx
    try clear By
    try clear p2
    obtain ⟨x7_2,x132001_2,u132001,rfl,HA,HK2,Bf,Bh,Ba,Bb,HB⟩:=hrel
    cases gk with
   |zero=>exact absurd HA.out (by simp [spec_LockNew.l0])
   |succ k2 =>
     have H:=HA.out
     clear HA
     simp only [spec_LockNew.l0] at H
     by_cases c19:x7_2<a0
     rotate_left
     ·rw [if_neg c19] at H
      have c19b0:decide (x7_2<a0)=false:=dF c19
      clear c19
      simp only [Option.some.injEq,Prod.mk.injEq] at H
      obtain ⟨rfl,rfl,rfl,rfl⟩:=H
      have B4:=Bj.out
      have B5:=Bg.out
      have BM:=cz0 Bb.out
      have BN:=cz1 Bb.out
      have BO:=cz2 Bb.out
      have BP:=bF Bb.out 0
      have BQ:=bF Bb.out 1
      have BR:=bF Bb.out 2
      have BS:=cz0 Ba.out
      have BT:=cz1 Ba.out
      have BU:=cz2 Ba.out
      have BV:=bF Ba.out 0
      have BW:=bF Ba.out 1
      have BX:=bF Ba.out 2
      obtain ⟨Ao29,co29,eo29⟩:=rC Bf.out
      subst eo29
      go_wp2
      refine bodyPost_ret (results_ct rfl _ _ Bc 51 #[.int .i64 0,.slice Ao29 x132001_2.length co29,.slice Ao14 y128.length co14] (0,0) _ rfl (by (with_reducible repeat (first|refine bN ?_ _|refine bD ?_|refine bA ?_ _));refine bT (cs:=#[.int .i64 0,.slice Ao29 x132001_2.length co29,.slice none 0 0]) ?_ 2 _ rfl;(with_reducible repeat (first|refine bN ?_ _|refine bD ?_|refine bA ?_ _));refine bT (cs:=#[.int .i64 0,.slice none 0 0,.slice none 0 0]) ?_ 1 _ rfl;(with_reducible repeat (first|refine bN ?_ _|refine bD ?_|refine bA ?_ _));refine bT (cs:=#[.int .i64 0,.slice none 0 0,.slice none 0 0]) ?_ 0 _ rfl;(with_reducible repeat (first|refine bN ?_ _|refine bD ?_|refine bA ?_ _));exact Ba.out) Try.underlying51 rfl (by kernel_rfl)) rfl ?_
      exact ⟨_,_,by first|rfl|(simp [errW_none,errW_some] <;> rfl)|(simp [*,errW_none,errW_some] <;> rfl),by (with_reducible repeat (first|apply rA|apply rN|apply rD));exact rM (rF (p:=⟨Bc,2,none⟩) (rF (p:=⟨Bc,1,none⟩) (rF (p:=⟨Bc,0,none⟩) (rT Bf.out Ba.out (by decide)) (fun _ hk=>hk.2) (.int .i64 0)) (fun _ hk=>hk.2) (.slice Ao29 x132001_2.length co29)) (fun _ hk=>hk.2) (.slice Ao14 y128.length co14)) (fun _ hk=>trivial),by (with_reducible repeat (first|apply rA|apply rN|apply rD));exact rM (rF (p:=⟨Bc,2,none⟩) (rF (p:=⟨Bc,1,none⟩) (rF (p:=⟨Bc,0,none⟩) (rT Bh.out Ba.out (by decide)) (fun _ hk=>hk.2) (.int .i64 0)) (fun _ hk=>hk.2) (.slice Ao29 x132001_2.length co29)) (fun _ hk=>hk.2) (.slice Ao14 y128.length co14)) (fun _ hk=>trivial),by repeat (first|(with_reducible first|exact HB.out|apply oA|apply pN|apply o1|refine bS ?_ Be.out|refine bS ?_ Bl.out)|exact HB.out)⟩


     rw [if_pos c19] at H
     have c19b0:decide (x7_2<a0)=true:=dT c19
     clear c19
     by_cases c20:x132001_2.length<4398046511104
     rotate_left
     ·rw [if_neg c20] at H
      exact absurd H (by simp)
     rw [if_pos c20] at H
     have LMc20:=Am c20
     clear c20
     obtain ⟨y132,hy132⟩:∃ y_:List (S57),y_=(x132001_2 ++ [(⟨0,0,a1,false⟩:S57)]):=⟨_,rfl⟩
     replace H:(spec_LockNew.l0 k2 a0 a1 (wrap64 (x7_2 + 1)) 0 y132 y128)=some (r1,r2,r3,r4):=by first|(rw [hy132];with_reducible exact H)|(have H2_:=(Option.bind_some _ _).symm.trans H;rw [hy132];with_reducible exact H2_)|(have H2_:=(Option.bind_some _ _).symm.trans H;with_reducible exact H2_)|with_reducible exact H|(rw [hy132];exact H)|exact H
     have Ny132:=Am hy132
     clear hy132
     have H':=Am H
     clear H
     have B2:=Bj.out
     have B3:=Bg.out
     have BA:=cz0 Bb.out
     have BB:=cz1 Bb.out
     have BC:=cz2 Bb.out
     have BD:=bF Bb.out 0
     have BE:=bF Bb.out 1
     have BF:=bF Bb.out 2
     go_wp2_with (first|((with_reducible refine gate_builtin (b:=.append) (xs:=#[.tmp 26,.tmp 29]) rfl ?_);at_builtin;refine Kd.R_append k57 (w0:=w) w.heap.size rfl (.tmp 26) (.tmp 29) 49 57 (.agg #[(.int .i64 0),(.int .i64 0),(.int .i64 0),(.bool false)]) 32 rfl Try.underlying49 info57 rfl (by decide) (by omega) u132001 x132001_2 (⟨0,0,a1,false⟩:S57) [.int .i64 0,.int .i64 0,.int .i64 a1,.bool false] (fun _=>True) (fun _=>False) rfl rfl ?aP (fun _ hk=>hk.elim) ?aF ?aO ?aB ?aS ?aL ?_;(case aP=>exact k57_mkM _ _ _ (⟨0,0,a1,false⟩:S57));(case aB=>exact (by repeat (first|(with_reducible first|exact HB.out|apply oA|apply pN|apply o1|refine bS ?_ Be.out|refine bS ?_ Bl.out)|exact HB.out)));(case aF=>exact (fun _ _=>trivial));(case aO=>exact (rL Bf.out));(case aS=>exact (bZ (by repeat (first|(with_reducible first|exact HB.out|apply oA|apply pN|apply o1|refine bS ?_ Be.out|refine bS ?_ Bl.out)|exact HB.out))));(case aL=>have:=LMc20.out;omega);intro v133 w23 ho hb hg hat;rw [← Ny132.out] at ho;have n0_:=Am (rO (rL Bh.out) (rY (rL Bf.out)) (by decide) hg);have n1_:=Am (bG (g:=Bc) (o:=.cells #[.int .i64 0,.slice none 0 0,.slice none 0 0] 51 (0,0)) (bL Ba.out) hg (rE Bf.out Ba.out (by decide)));have n2_:=Am (bG (g:=Bd) (o:=.cells #[.int .i64 0,u132001,.slice Ao14 y128.length co14] 51 (0,0)) (bL Bb.out) hg (rE Bf.out Bb.out (by decide)));have n3_:=Am (hb);have n4_:=Am (ho);clear Bh Ba Bb HB Bf;revert n0_ n1_ n2_ n3_ n4_;intro Bh Ba Bb HB Bm;clear ho hb hg hat;obtain ⟨Ao24,co24,eo24⟩:=rC Bm.out;subst eo24;have BG:=cz0 Bb.out;have BH:=cz1 Bb.out;have BI:=cz2 Bb.out;have BJ:=bF Bb.out 0;have BK:=bF Bb.out 1;have BL:=bF Bb.out 2))
     go_roundg k2
     case measure=>have:=Bz.out;have:=HK2.out;omega
     case rel=>exact ⟨(wrap64 (x7_2 + 1)),(y132),(.slice Ao24 y132.length co24),(by first|rfl|(simp;done)|(simp [*];done)),H',⟨by have:=Bz.out;have:=HK2.out;omega⟩,⟨by (with_reducible repeat (first|apply rA|apply rN|apply rD));exact rM (rF (p:=⟨Bd,1,none⟩) (rT Bm.out Bb.out (by decide)) (fun _ hk=>hk.2) (.slice Ao24 y132.length co24)) (fun _ hk=>trivial)⟩,⟨by (with_reducible repeat (first|apply rA|apply rN|apply rD));exact rM (rF (p:=⟨Bd,1,none⟩) (rT Bh.out Bb.out (by decide)) (fun _ hk=>hk.2) (.slice Ao24 y132.length co24)) (fun _ hk=>trivial)⟩,⟨by (with_reducible repeat (first|refine bN ?_ _|refine bD ?_|refine bA ?_ _|refine bE ?_ Bg.out _));exact Ba.out⟩,⟨by (with_reducible repeat (first|refine bN ?_ _|refine bD ?_|refine bA ?_ _));refine bT (cs:=#[.int .i64 0,u132001,.slice Ao14 y128.length co14]) ?_ 1 _ rfl;(with_reducible repeat (first|refine bN ?_ _|refine bD ?_|refine bA ?_ _));exact Bb.out⟩,⟨by repeat (first|(with_reducible first|exact HB.out|apply oA|apply pN|apply o1|refine bS ?_ Be.out|refine bS ?_ Bl.out)|exact HB.out)⟩⟩/-! ### laws_qdInts: function 54 -/
def laws_qdInts.l0 : Nat → List Int → List Int → Int → Option (Bool)
|0, _, _, _ => none
|k + 1, x0, x1, x5 => if x5 < (x0.length : Int) then (if 0 ≤ x5 then (if x5 < (x1.length : Int) then (if (rd x0 x5) = (rd x1 x5) then (laws_qdInts.l0 k x0 x1 (wrap64 (x5 + 1))) else (some false)) else (none)) else (none)) else (some true)
def laws_qdInts.f (k : Nat) (l0 : List Int) (l1 : List Int) : Option (Bool) := if (l0.length : Int) = (l1.length : Int) then (laws_qdInts.l0 k l0 l1 0) else (some false)
theorem laws_qdInts.mono_l : ∀ k, (∀ y0 y1 y2, LeO (laws_qdInts.l0 k y0 y1 y2) (laws_qdInts.l0 (k + 1) y0 y1 y2))
|0 => fun _ _ _ r h => by simp [laws_qdInts.l0] at h
|k + 1 => by
  have ih0 := laws_qdInts.mono_l k
  ·intro y0 y1 y2
   unfold laws_qdInts.l0
   repeat' first
  |(with_reducible exact ih0 _ _ _)
  |(with_reducible exact LeO.refl _)
  |(with_reducible exact LeO.none _)
  |(with_reducible refine LeO.ite ?_ ?_)
  |(with_reducible refine LeO.bind ?_ (fun _ => ?_))
  |exact ih0 _ _ _
  |exact LeO.none _
  |refine LeO.ite ?_ ?_
  |refine LeO.bind ?_ (fun _ => ?_)
theorem laws_qdInts.mono : ∀ a0 a1 k, LeO (laws_qdInts.f k a0 a1) (laws_qdInts.f (k + 1) a0 a1) := by
 intro a0 a1 k
 have ih0 := laws_qdInts.mono_l k
 unfold laws_qdInts.f
 repeat' first
  |(with_reducible exact ih0 _ _ _)
  |(with_reducible exact LeO.refl _)
  |(with_reducible exact LeO.none _)
  |(with_reducible refine LeO.ite ?_ ?_)
  |(with_reducible refine LeO.bind ?_ (fun _ => ?_))
  |exact ih0 _ _ _
  |exact LeO.none _
  |refine LeO.ite ?_ ?_
  |refine LeO.bind ?_ (fun _ => ?_)
set_option maxHeartbeats 2000000 in
set_option maxRecDepth 100000 in
theorem laws_qdInts.calls (k:Nat) (A0:Option Addr) (c0:Nat) (l0:List Int) (A1:Option Addr) (c1:Nat) (l1:List Int) (r:Bool) (w:World) (hr0:Kd.C (Kd.int .i64) w A0 l0.length l0) (hc0:l0.length≤c0) (hr1:Kd.C (Kd.int .i64) w A1 l1.length l1) (hc1:l1.length≤c1) (h:laws_qdInts.f k l0 l1=some r) :
  Calls Try.prog 54 #[.slice A0 l0.length c0,.slice A1 l1.length c1] w fun e w'=>e=.returned (.bool r)∧Drawn0 w w':=by
 have HR0:=Am hr0
 have HC0:=Am hc0
 clear hr0 hc0
 have HR1:=Am hr1
 have HC1:=Am hc1
 clear hr1 hc1
 have H:(if (l0.length:Int)=(l1.length:Int) then (laws_qdInts.l0 k l0 l1 0) else (some false))=some r:=h
 clear h
 by_cases c3:(l0.length:Int)=(l1.length:Int)
 rotate_left
 ·rw [if_neg c3] at H
  have c3b0:((l0.length:Int) == (l1.length:Int))=false:=beq_eq_false_iff_ne.mpr c3
  have c3b1:((l0.length:Int) != (l1.length:Int))=true:=bne_iff_ne.mpr c3
  have c3b2:(l0.length == l1.length)=false:=by first|simpa using c3|(simp at c3 ⊢;omega)
  obtain rfl:=oJ H
  go_enter Try.func54,Try.ntmps54
  go_wp2
  repeat (go_quiet (fail);try go_wp2)
  go_ret
  exact ⟨by first|rfl|(simp;done)|(simp [*];done),by repeat (first|exact Drawn0.refl _|apply Drawn0.step)⟩

 rw [if_pos c3] at H
 have c3b0:((l0.length:Int) == (l1.length:Int))=true:=beq_iff_eq.mpr c3
 have c3b1:((l0.length:Int) != (l1.length:Int))=false:=bne_eq_false_iff_eq.mpr c3
 have c3b2:(l0.length == l1.length)=true:=by first|simpa using c3|(simp at c3 ⊢;omega)
 clear c3
 have H':=Am H
 clear H
 go_enter Try.func54,Try.ntmps54
 go_wp2
 repeat (go_quiet (fail);try go_wp2)
 go_loopg [5] k (fun kq v5 w'=>∃ (x5_1:Int),v5=.int .i64 x5_1∧Aside0 (laws_qdInts.l0 kq l0 l1 x5_1=some r)∧Aside0 (kq≤k)∧Drawn0 w w')
 case atStart=>exact ⟨(0),(by first|rfl|(simp;done)|(simp [*];done)),H',⟨nR _⟩,by repeat (first|exact Drawn0.refl _|apply Drawn0.step)⟩
 case round =>
  clear H'
  try clear c1
  try clear p2
  try clear c3
  try clear c3b0
  try clear c3b1
  try clear c3b2
  obtain ⟨x5_1,rfl,HA,HK1,⟨m1,rfl⟩⟩:=hrel
  cases gk with
 |zero=>exact absurd HA.out (by simp [laws_qdInts.l0])
 |succ k1 =>
   have H:=HA.out
   clear HA
   simp only [laws_qdInts.l0] at H
   by_cases c4:x5_1<(l0.length:Int)
   rotate_left
   ·rw [if_neg c4] at H
    have c4b0:decide (x5_1<(l0.length:Int))=false:=dF c4
    clear c4
    obtain rfl:=oJ H
    go_wp2
    repeat (go_quiet (fail);try go_wp2)
    go_ret
    exact ⟨by first|rfl|(simp;done)|(simp [*];done),by repeat (first|exact Drawn0.refl _|apply Drawn0.step)⟩
   rw [if_pos c4] at H
   have c4b0:decide (x5_1<(l0.length:Int))=true:=dT c4
   clear c4
   by_cases c5:0≤x5_1
   rotate_left
   ·rw [if_neg c5] at H
    exact absurd H (by simp)
   rw [if_pos c5] at H
   have c5b0:decide (0≤x5_1)=true:=dT c5
   clear c5
   by_cases c6:x5_1<(l1.length:Int)
   rotate_left
   ·rw [if_neg c6] at H
    exact absurd H (by simp)
   rw [if_pos c6] at H
   have c6b0:decide (x5_1<(l1.length:Int))=true:=dT c6
   clear c6
   by_cases c7:(rd l0 x5_1)=(rd l1 x5_1)
   rotate_left
   ·rw [if_neg c7] at H
    have c7b0:((rd l0 x5_1) == (rd l1 x5_1))=false:=beq_eq_false_iff_ne.mpr c7
    have c7b1:((rd l0 x5_1) != (rd l1 x5_1))=true:=bne_iff_ne.mpr c7
    obtain rfl:=oJ H
    have p135:0≤(x5_1:Int):=oE (by first|(with_reducible assumption)|assumption)
    have q135:x5_1<(l0.length:Int):=oE (by first|(with_reducible assumption)|assumption)
    obtain ⟨ad135,e135,hx135_0⟩:=Kd.at_int HR0.out x5_1 p135 q135
    cases e135
    replace p135:=eq_true p135
    replace q135:=eq_true q135
    have p136:0≤(x5_1:Int):=oE (by first|(with_reducible assumption)|assumption)
    have q136:x5_1<(l1.length:Int):=oE (by first|(with_reducible assumption)|assumption)
    obtain ⟨ad136,e136,hx136_0⟩:=Kd.at_int HR1.out x5_1 p136 q136
    cases e136
    replace p136:=eq_true p136
    replace q136:=eq_true q136
    go_wp2
    repeat (go_quiet (fail);try go_wp2)
    go_ret
    exact ⟨by first|rfl|(simp;done)|(simp [*];done),by repeat (first|exact Drawn0.refl _|apply Drawn0.step)⟩
   rw [if_pos c7] at H
   have c7b0:((rd l0 x5_1) == (rd l1 x5_1))=true:=beq_iff_eq.mpr c7
   have c7b1:((rd l0 x5_1) != (rd l1 x5_1))=false:=bne_eq_false_iff_eq.mpr c7
   clear c7
   have H':=Am H
   clear H
   have p135:0≤(x5_1:Int):=oE (by first|(with_reducible assumption)|assumption)
   have q135:x5_1<(l0.length:Int):=oE (by first|(with_reducible assumption)|assumption)
   obtain ⟨ad135,e135,hx135_0⟩:=Kd.at_int HR0.out x5_1 p135 q135
   cases e135
   replace p135:=eq_true p135
   replace q135:=eq_true q135
   have p136:0≤(x5_1:Int):=oE (by first|(with_reducible assumption)|assumption)
   have q136:x5_1<(l1.length:Int):=oE (by first|(with_reducible assumption)|assumption)
   obtain ⟨ad136,e136,hx136_0⟩:=Kd.at_int HR1.out x5_1 p136 q136
   cases e136
   replace p136:=eq_true p136
   replace q136:=eq_true q136
   go_wp2
   repeat (go_quiet (fail);try go_wp2)
   go_roundg k1
   case measure=>have:=HK1.out;omega
   case rel=>exact ⟨(wrap64 (x5_1 + 1)),(by first|rfl|(simp;done)|(simp [*];done)),H',⟨by have:=HK1.out;omega⟩,by repeat (first|exact Drawn0.refl _|apply Drawn0.step)⟩
end Go.Proofs.Ytpdfkbggaihfpaa.PFnLockWord
