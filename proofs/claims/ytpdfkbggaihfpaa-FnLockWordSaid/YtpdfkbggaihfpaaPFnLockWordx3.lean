/- Proved here, without a condition beyond those that each theorem states: what the Go functions named below do is what the plain functions of the same names say. Written by xprint.py, a program of this session. -/
import Derived.Test.YtpdfkbggaihfpaaPFnLockWordx0
namespace Go.Proofs.Ytpdfkbggaihfpaa.PFnLockWord
open Go.RowKit Go.Proofs.YtpdfkbggaihfpaaW.PrintWords Go.Proofs.YtpdfkbggaihfpaaW.PrintLast Go.Proofs.YtpdfkbggaihfpaaW.PrintMore
attribute [local go_sem] max2_int min2_int max_two min_two max_three min_three max_four min_four   -- for this text's walks alone
set_option linter.unusedVariables false
set_option linter.unusedSimpArgs false

attribute [local go_sem ↓] isSome_setCell_
/-! ### impl_in: function 48 -/
def impl_in.f (a0 : Int) (a1 : Int) (a2 : Int) : Option (Bool) := if a0 ≥ a1 then (some (decide (a0 ≤ a2))) else (some false)
set_option maxHeartbeats 2000000 in
set_option maxRecDepth 100000 in
theorem impl_in.calls (a0:Int) (a1:Int) (a2:Int) (r:Bool) (w:World) (h:impl_in.f a0 a1 a2=some r) :
  Calls Try.prog 48 #[.int .i64 a0,.int .i64 a1,.int .i64 a2] w fun e w'=>e=.returned (.bool r)∧Drawn0 w w':=by
 have H:(if a0 ≥ a1 then (some (decide (a0≤a2))) else (some false))=some r:=h
 clear h
 by_cases c4:a0 ≥ a1
 ·rw [if_pos c4] at H
  have c4b0:decide (a1≤a0)=true:=dT c4
  clear c4
  obtain rfl:=oJ H
  go_enter Try.func48,Try.ntmps48
  go_wp2
  go_ret
  exact ⟨by first|rfl|(simp;done)|(simp [*];done),by repeat (first|exact Drawn0.refl _|apply Drawn0.step)⟩
 rw [if_neg c4] at H
 have c4b0:decide (a1≤a0)=false:=dF c4
 clear c4
 obtain rfl:=oJ H
 go_enter Try.func48,Try.ntmps48
 go_wp2
 go_ret
 exact ⟨by first|rfl|(simp;done)|(simp [*];done),by repeat (first|exact Drawn0.refl _|apply Drawn0.step)⟩

/-! ### impl_LockNew: function 33 -/
mutual
def impl_LockNew.j0 : Nat → Int → Int → Bool → Option (Int × (List (S57)) × List Int × Bool)
|0, _, _, _ => none
|k + 1, x0, x1, x15 => if x15 = true then (some (0, ([] : List (S57)), ([] : List Int), false)) else (if 0 ≤ x0 then (if (x0 : Int).toNat ≤ 8796093022208 then ((some (List.replicate (x0 : Int).toNat z57 : List (S57))).bind fun y117 => (impl_LockNew.l0 k x1 (y117.length : Int) 0 0 y117)) else (none)) else (none))
def impl_LockNew.l0 : Nat → Int → Int → Int → Int → List (S57) → Option (Int × (List (S57)) × List Int × Bool)
|0, _, _, _, _, _ => none
|k + 1, x1, x22, x23, x121000, x121001 => if x23 < x22 then (if 0 ≤ x23 then (if x23 < (x121001.length : Int) then (impl_LockNew.l0 k x1 x22 (wrap64 (x23 + 1)) x121000 (x121001.set (x23 : Int).toNat (⟨(rd_T57 x121001 x23).f0, (rd_T57 x121001 x23).f1, x1, (rd_T57 x121001 x23).f3⟩ : S57))) else (none)) else (none)) else (some (x121000, x121001, ([] : List Int), true))
end
def impl_LockNew.f (k : Nat) (a0 : Int) (a1 : Int) : Option (Int × (List (S57)) × List Int × Bool) := (impl_in.f a0 1 4).bind fun t115 => (if t115 = true then ((impl_in.f a1 0 3).bind fun t116 => (impl_LockNew.j0 k a0 a1 (!t116))) else (impl_LockNew.j0 k a0 a1 true))
theorem impl_LockNew.mono_l : ∀ k, (∀ y0 y1 y2, LeO (impl_LockNew.j0 k y0 y1 y2) (impl_LockNew.j0 (k + 1) y0 y1 y2)) ∧ (∀ y0 y1 y2 y3 y4, LeO (impl_LockNew.l0 k y0 y1 y2 y3 y4) (impl_LockNew.l0 (k + 1) y0 y1 y2 y3 y4))
|0 => ⟨fun _ _ _ r h => by simp [impl_LockNew.j0] at h, fun _ _ _ _ _ r h => by simp [impl_LockNew.l0] at h⟩
|k + 1 => by
  obtain ⟨ih0, ih1⟩ := impl_LockNew.mono_l k
  refine ⟨?_, ?_⟩
  ·intro y0 y1 y2
   unfold impl_LockNew.j0
   repeat' first
  |(with_reducible exact ih0 _ _ _)
  |(with_reducible exact ih1 _ _ _ _ _)
  |(with_reducible exact LeO.refl _)
  |(with_reducible exact LeO.none _)
  |(with_reducible refine LeO.ite ?_ ?_)
  |(with_reducible refine LeO.bind ?_ (fun _ => ?_))
  |exact ih0 _ _ _
  |exact ih1 _ _ _ _ _
  |exact LeO.none _
  |refine LeO.ite ?_ ?_
  |refine LeO.bind ?_ (fun _ => ?_)
  ·intro y0 y1 y2 y3 y4
   unfold impl_LockNew.l0
   repeat' first
  |(with_reducible exact ih0 _ _ _)
  |(with_reducible exact ih1 _ _ _ _ _)
  |(with_reducible exact LeO.refl _)
  |(with_reducible exact LeO.none _)
  |(with_reducible refine LeO.ite ?_ ?_)
  |(with_reducible refine LeO.bind ?_ (fun _ => ?_))
  |exact ih0 _ _ _
  |exact ih1 _ _ _ _ _
  |exact LeO.none _
  |refine LeO.ite ?_ ?_
  |refine LeO.bind ?_ (fun _ => ?_)
theorem impl_LockNew.mono : ∀ a0 a1 k, LeO (impl_LockNew.f k a0 a1) (impl_LockNew.f (k + 1) a0 a1) := by
 intro a0 a1 k
 obtain ⟨ih0, ih1⟩ := impl_LockNew.mono_l k
 unfold impl_LockNew.f
 repeat' first
  |(with_reducible exact ih0 _ _ _)
  |(with_reducible exact ih1 _ _ _ _ _)
  |(with_reducible exact LeO.refl _)
  |(with_reducible exact LeO.none _)
  |(with_reducible refine LeO.ite ?_ ?_)
  |(with_reducible refine LeO.bind ?_ (fun _ => ?_))
  |exact ih0 _ _ _
  |exact ih1 _ _ _ _ _
  |exact LeO.none _
  |refine LeO.ite ?_ ?_
  |refine LeO.bind ?_ (fun _ => ?_)
set_option maxHeartbeats 2000000 in
set_option maxRecDepth 100000 in
theorem impl_LockNew.calls (k:Nat) (a0:Int) (a1:Int) (r1:Int) (r2:List (S57)) (r3:List Int) (r4:Bool) (w:World) (h:impl_LockNew.f k a0 a1=some (r1,r2,r3,r4)) :
  Calls Try.prog 33 #[.int .i64 a0,.int .i64 a1] w fun e w'=>∃ v1_ v2_:Value,e=.returned (.tuple #[.agg #[.int .i64 r1,v1_,v2_],.bool r4])∧Kd.R k57 57 w' w.heap.size (fun _=>True) v1_ r2∧Kd.R (Kd.int .i64) 3 w' w.heap.size (fun _=>True) v2_ r3∧Below w.heap.size w w':=by
 have hu51:=Try.underlying51
 have HB:=Am (bJ w.heap.size w)
 have H:((impl_in.f a0 1 4).bind fun t115=>(if t115=true then ((impl_in.f a1 0 3).bind fun t116=>(impl_LockNew.j0 k a0 a1 (!t116))) else (impl_LockNew.j0 k a0 a1 true)))=some (r1,r2,r3,r4):=h
 clear h
 have HC3:=Am H
 clear H
 go_enter Try.func33,Try.ntmps33
 go_upto_region 1 with (first|((with_reducible refine gD (N:=4) rfl ?_);refine bI ?hg (N:=4) ?hd (cs:=#[.int .i64 0,.slice none 0 0,.slice none 0 0]) (t:=51) ?hr ?_;(case hd=>rfl);(case hg=>rfl);(case hr=>first|(go_simp;done)|(go_simp;rfl));intro Bd hg w4 hbox hb;have n0_:=Am (bP (by repeat (first|(with_reducible first|exact HB.out|apply oA|apply pN|apply o1)|exact HB.out)) hb);have n1_:=Am (hbox);have n2_:=Am ((by rw [hg];exact (bZ (by repeat (first|(with_reducible first|exact HB.out|apply oA|apply pN|apply o1)|exact HB.out))):w.heap.size≤Bd));have n3_:=Am ((by rw [hg];exact (bZ (by repeat (first|(with_reducible first|exact HB.out|apply oA|apply pN|apply o1)|exact HB.out))):w.heap.size≤Bd));clear HB;revert n0_ n1_ n2_ n3_;intro HB Ba BQ Bf;clear hb hbox hg))
 (try simp only [Act.put,lA,lZ,lS])
 go_cut [15] (fun v15 wc=>∃ (kq:Nat) (x15_2:Bool),v15=.bool x15_2∧Aside0 (impl_LockNew.j0 kq a0 a1 x15_2=some (r1,r2,r3,r4))∧Aside0 (kq≤k)∧Aside0 (wc.heap[Bd]?=some (.cells #[.int .i64 0,(.slice none 0 0),(.slice none 0 0)] 51 (0,0)))∧Aside0 (Below w.heap.size w wc))
 case first =>
  have H:=HC3.out
  clear HC3
  replace H:=oC H
  obtain ⟨t115,A50,H⟩:=H
  replace H:(if t115=true then ((impl_in.f a1 0 3).bind fun t116=>(impl_LockNew.j0 k a0 a1 (!t116))) else (impl_LockNew.j0 k a0 a1 true))=some (r1,r2,r3,r4):=H
  have A5:=Am A50
  clear A50
  by_cases c6:t115=true
  rotate_left
  ·replace c6:=Bool.eq_false_iff.mpr c6
   subst c6
   have H1:(impl_LockNew.j0 k a0 a1 true)=some (r1,r2,r3,r4):=by rw [if_neg (show ¬ (false=true) by decide)] at H;exact H
   clear H
   have H:=H1
   clear H1
   have H':=Am H
   clear H
   go_wp2_with (first|((with_reducible refine gC (f:=48) rfl ?_);refine goesL_ (some 9) rfl rfl Try.func48 (by kernel_rfl) rfl #[.int .i64 a0,.int .i64 1,.int .i64 4] rfl (by (try simp only [lM,lC,lN]);first|done|rfl|(simp only [lD,lT];rfl)) ?_;(with_reducible refine (impl_in.calls a0 1 4 false _ A5.out).mono ?_);rintro e w' ⟨rfl,⟨nd,rfl⟩⟩;refine ⟨_,rfl,?_⟩))
   go_meet
   case rel=>exact ⟨_,(true),(by first|rfl|(simp;done)|(simp [*];done)),H',⟨by first|omega|exact nR _⟩,⟨by (with_reducible repeat (first|refine bN ?_ _|refine bD ?_|refine bA ?_ _));exact Ba.out⟩,⟨by repeat (first|(with_reducible first|exact HB.out|apply oA|apply pN|apply o1|refine bS ?_ Bf.out)|exact HB.out)⟩⟩
  subst c6
  have H1:((impl_in.f a1 0 3).bind fun t116=>(impl_LockNew.j0 k a0 a1 (!t116)))=some (r1,r2,r3,r4):=by rw [if_pos rfl] at H;exact H
  clear H
  have H:=H1
  clear H1
  replace H:=oC H
  obtain ⟨t116,A70,H⟩:=H
  replace H:(impl_LockNew.j0 k a0 a1 (!t116))=some (r1,r2,r3,r4):=H
  have A7:=Am A70
  clear A70
  have H':=Am H
  clear H
  go_wp2_with (first|((with_reducible refine gC (f:=48) rfl ?_);refine goesL_ (some 9) rfl rfl Try.func48 (by kernel_rfl) rfl #[.int .i64 a0,.int .i64 1,.int .i64 4] rfl (by (try simp only [lM,lC,lN]);first|done|rfl|(simp only [lD,lT];rfl)) ?_;(with_reducible refine (impl_in.calls a0 1 4 true _ A5.out).mono ?_);rintro e w' ⟨rfl,⟨nd,rfl⟩⟩;refine ⟨_,rfl,?_⟩)|(go_at_call 48;(with_reducible refine (impl_in.calls a1 0 3 t116 _ A7.out).mono ?_);rintro e w' ⟨rfl,⟨nd,rfl⟩⟩))
  go_meet
  case rel=>exact ⟨_,(!t116),(by first|rfl|(simp;done)|(simp [*];done)),H',⟨by first|omega|exact nR _⟩,⟨by (with_reducible repeat (first|refine bN ?_ _|refine bD ?_|refine bA ?_ _));exact Ba.out⟩,⟨by repeat (first|(with_reducible first|exact HB.out|apply oA|apply pN|apply o1|refine bS ?_ Bf.out)|exact HB.out)⟩⟩
 case rest =>
  clear HC3
  try clear p2
  try clear c3
  try clear c4
  try clear c6
  obtain ⟨kq,x15_2,rfl,HA,Bx,Ba,HB⟩:=hcut
  cases kq with
 |zero=>exact absurd HA.out (by simp [impl_LockNew.j0])
 |succ kj2 =>
   have H:=HA.out
   clear HA
   simp only [impl_LockNew.j0] at H
   by_cases c8:x15_2=true
   ·subst c8
    have H1:(some (0,([]:List (S57)),([]:List Int),false))=some (r1,r2,r3,r4):=by rw [if_pos rfl] at H;exact H
    clear H
    have H:=H1
    clear H1
    simp only [Option.some.injEq,Prod.mk.injEq] at H
    obtain ⟨rfl,rfl,rfl,rfl⟩:=H
    have Bq:=cz0 Ba.out
    have Br:=cz1 Ba.out
    have Bs:=cz2 Ba.out
    have Bt:=bF Ba.out 0
    have Bu:=bF Ba.out 1
    have Bv:=bF Ba.out 2
    go_wp2
    refine bodyPost_ret (results_ct rfl _ _ Bd 51 #[.int .i64 0,.slice none 0 0,.slice none 0 0] (0,0) _ rfl (by (with_reducible repeat (first|refine bN ?_ _|refine bD ?_|refine bA ?_ _));refine bT (cs:=#[.int .i64 0,.slice none 0 0,.slice none 0 0]) ?_ 2 _ rfl;(with_reducible repeat (first|refine bN ?_ _|refine bD ?_|refine bA ?_ _));refine bT (cs:=#[.int .i64 0,.slice none 0 0,.slice none 0 0]) ?_ 1 _ rfl;(with_reducible repeat (first|refine bN ?_ _|refine bD ?_|refine bA ?_ _));refine bT (cs:=#[.int .i64 0,.slice none 0 0,.slice none 0 0]) ?_ 0 _ rfl;(with_reducible repeat (first|refine bN ?_ _|refine bD ?_|refine bA ?_ _));exact Ba.out) Try.underlying51 rfl (by kernel_rfl)) rfl ?_
    exact ⟨_,_,by first|rfl|(simp [errW_none,errW_some] <;> rfl)|(simp [*,errW_none,errW_some] <;> rfl),by first|exact Kd.R_nil _ _ _ _ _|exact Kd.N_nil _ _ _ _ _|exact Kd.V_nil _ _ _ _ _|exact Kd.Q_nil _ _ _ _ _|exact Kd.S_nil _ _ _ _ _,by first|exact Kd.R_nil _ _ _ _ _|exact Kd.N_nil _ _ _ _ _|exact Kd.V_nil _ _ _ _ _|exact Kd.Q_nil _ _ _ _ _|exact Kd.S_nil _ _ _ _ _,by repeat (first|(with_reducible first|exact HB.out|apply oA|apply pN|apply o1|refine bS ?_ Bf.out)|exact HB.out)⟩
   replace c8:=Bool.eq_false_iff.mpr c8
   subst c8
   have H1:(if 0≤a0 then (if (a0:Int).toNat≤8796093022208 then ((some (List.replicate (a0:Int).toNat z57:List (S57))).bind fun y117=>(impl_LockNew.l0 kj2 a1 (y117.length:Int) 0 0 y117)) else (none)) else (none))=some (r1,r2,r3,r4):=by rw [if_neg (show ¬ (false=true) by decide)] at H;exact H
   clear H
   have H:=H1
   clear H1
   by_cases c10:0≤a0
   rotate_left
   ·rw [if_neg c10] at H
    exact absurd H (by simp)


   rw [if_pos c10] at H
   have c10b0:=eq_true c10
   have c10b1:decide (0≤a0)=true:=dT c10
   clear c10
   by_cases c11:(a0:Int).toNat≤8796093022208
   rotate_left
   ·rw [if_neg c11] at H
    exact absurd H (by simp)
   rw [if_pos c11] at H
   have c11b0:=eq_true c11
   have c11b1:decide ((a0:Int).toNat≤8796093022208)=true:=dT c11
   clear c11
   obtain ⟨y117,hy117⟩:∃ y_:List (S57),y_=(List.replicate (a0:Int).toNat z57):=⟨_,rfl⟩
   replace H:(impl_LockNew.l0 kj2 a1 (y117.length:Int) 0 0 y117)=some (r1,r2,r3,r4):=by first|(rw [hy117];with_reducible exact H)|(have H2_:=(Option.bind_some _ _).symm.trans H;rw [hy117];with_reducible exact H2_)|(have H2_:=(Option.bind_some _ _).symm.trans H;with_reducible exact H2_)|with_reducible exact H|(rw [hy117];exact H)|exact H
   have Ny117:=Am hy117
   clear hy117
   have H':=Am H
   clear H
   go_wp2_with (first|((with_reducible refine gD (N:=18) rfl ?_);refine Kd.R_make k57 _ 57 rfl (N:=18) rfl 49 _ _ rfl a0 rfl rfl Try.underlying49 (.agg #[(.int .i64 0),(.int .i64 0),(.int .i64 0),(.bool false)]) 32 info57 rfl (by decide) (by omega) z57 (ok:=fun _=>True) (okp:=fun _=>True) (k57_mkM _ _ _ z57 ) (fun _ hk=>hk) trivial (oE (by first|(with_reducible assumption)|assumption)) (Nat.le_trans (Nat.mul_le_mul_right _ (oE (by first|(with_reducible assumption)|assumption):a0.toNat≤8796093022208)) (by omega)) (bJ _ _) (nR _) ?_;intro v118 w12 ho13 hb hg_ hnew_;clear hg_ hnew_;(first|rw [← Ny117.out] at ho13|(simp only [Int.reduceToNat] at ho13;rw [← Ny117.out] at ho13));have n0_:=Am (rW ho13 (bZ (by repeat (first|(with_reducible first|exact HB.out|apply oA|apply pN|apply o1|refine bS ?_ Bf.out)|exact HB.out))));have n1_:=Am (bX Ba.out hb);have n2_:=Am (bP (by repeat (first|(with_reducible first|exact HB.out|apply oA|apply pN|apply o1|refine bS ?_ Bf.out)|exact HB.out)) hb);clear Ba HB;revert n0_ n1_ n2_;intro Bi Ba HB;clear hb ho13;obtain ⟨Ao14,co14,eo14⟩:=rC Bi.out;subst eo14)|((with_reducible refine gD (N:=6) rfl ?_);refine bI ?hg (N:=6) ?hd (cs:=#[.int .i64 0,.slice none 0 0,.slice none 0 0]) (t:=51) ?hr ?_;(case hd=>rfl);(case hg=>rfl);(case hr=>first|(go_simp;done)|(go_simp;rfl));intro Be hg w15 hbox hb;have n0_:=Am (rB (rL Bi.out) hb);have n1_:=Am (bX Ba.out hb);have n2_:=Am (bP (by repeat (first|(with_reducible first|exact HB.out|apply oA|apply pN|apply o1|refine bS ?_ Bf.out)|exact HB.out)) hb);have n3_:=Am (hbox);have n4_:=Am ((by rw [hg];exact (bZ (by repeat (first|(with_reducible first|exact HB.out|apply oA|apply pN|apply o1|refine bS ?_ Bf.out)|exact HB.out))):w.heap.size≤Be));have n5_:=Am ((by rw [hg];exact (bZ (by repeat (first|(with_reducible first|exact HB.out|apply oA|apply pN|apply o1|refine bS ?_ Bf.out)|exact HB.out))):w.heap.size≤Be));have n6_:=Am ((nL Ba.out hg));have n7_:=Am ((nG Ba.out hg));clear Bi Ba HB;revert n0_ n1_ n2_ n3_ n4_ n5_ n6_ n7_;intro Bi Ba HB Bb BR Bj Bg Bh;clear hb hbox hg;have BS:=Bh.out;have BT:=Bg.out;have Bk:=cz0 Bb.out;have Bl:=cz1 Bb.out;have Bm:=cz2 Bb.out;have Bn:=bF Bb.out 0;have Bo:=bF Bb.out 1;have Bp:=bF Bb.out 2))
   go_loopg [23] kj2 (fun kq v23 w'=>∃ (x23_2:Int) (x121001_2:List (S57)) (u121001:Value),v23=.int .i64 x23_2∧Aside0 (impl_LockNew.l0 kq a1 (y117.length:Int) x23_2 0 x121001_2=some (r1,r2,r3,r4))∧Aside0 (kq≤kj2)∧Aside0 (Kd.R k57 57 w' w.heap.size (fun _=>True) u121001 x121001_2)∧Aside0 (w'.heap[Bd]?=some (.cells #[.int .i64 0,(.slice none 0 0),(.slice none 0 0)] 51 (0,0)))∧Aside0 (w'.heap[Be]?=some (.cells #[.int .i64 0,u121001,(.slice none 0 0)] 51 (0,0)))∧Aside0 (Below w.heap.size w w'))
   case atStart=>exact ⟨(0),(y117),(.slice Ao14 y117.length co14),(by first|rfl|(simp;done)|(simp [*];done)),H',⟨nR _⟩,⟨by (with_reducible repeat (first|apply rA|apply rN|apply rD));exact rM (rF (p:=⟨Be,2,none⟩) (rF (p:=⟨Be,1,none⟩) (rF (p:=⟨Be,0,none⟩) (rT Bi.out Bb.out (by decide)) (fun _ hk=>hk.2) (.int .i64 0)) (fun _ hk=>hk.2) (.slice Ao14 y117.length co14)) (fun _ hk=>hk.2) (.slice none 0 0)) (fun _ hk=>trivial)⟩,⟨by (with_reducible repeat (first|refine bN ?_ _|refine bD ?_|refine bA ?_ _|refine bE ?_ Bg.out _));exact Ba.out⟩,⟨by (with_reducible repeat (first|refine bN ?_ _|refine bD ?_|refine bA ?_ _));refine bT (cs:=#[.int .i64 0,.slice Ao14 y117.length co14,.slice none 0 0]) ?_ 2 _ rfl;(with_reducible repeat (first|refine bN ?_ _|refine bD ?_|refine bA ?_ _));refine bT (cs:=#[.int .i64 0,.slice none 0 0,.slice none 0 0]) ?_ 1 _ rfl;(with_reducible repeat (first|refine bN ?_ _|refine bD ?_|refine bA ?_ _));refine bT (cs:=#[.int .i64 0,.slice none 0 0,.slice none 0 0]) ?_ 0 _ rfl;(with_reducible repeat (first|refine bN ?_ _|refine bD ?_|refine bA ?_ _));exact Bb.out⟩,⟨by repeat (first|(with_reducible first|exact HB.out|apply oA|apply pN|apply o1|refine bS ?_ Bf.out|refine bS ?_ Bj.out)|exact HB.out)⟩⟩
   case round =>
    clear H'
    try clear c1
    try clear p2
    try clear c3
    try clear c4
    try clear c6
    try clear c8
    try clear c10
    try clear c10b0
    try clear c10b1
    try clear c11
    try clear c11b0
    try clear c11b1
    try clear c16
    try clear Bk
    try clear Bl
    try clear Bm
    try clear Bq
    try clear Br
    try clear Bs
    try clear Bn
    try clear Bo
    try clear Bp
    try clear Bt
    try clear Bu
    try clear Bv
    try clear p2
    obtain ⟨x23_2,x121001_2,u121001,rfl,HA,HK2,Bc,Ba,Bb,HB⟩:=hrel
    cases gk with
   |zero=>exact absurd HA.out (by simp [impl_LockNew.l0])
   |succ k2 =>
     have H:=HA.out
     clear HA
     simp only [impl_LockNew.l0] at H
     by_cases c18:x23_2<(y117.length:Int)
     rotate_left
     ·rw [if_neg c18] at H
      have c18b0:decide (x23_2<(y117.length:Int))=false:=dF c18
      clear c18
      simp only [Option.some.injEq,Prod.mk.injEq] at H
      obtain ⟨rfl,rfl,rfl,rfl⟩:=H
      have BW:=Bh.out
      have BX:=Bg.out
      have BE:=cz0 Bb.out
      have BF:=cz1 Bb.out
      have BG:=cz2 Bb.out
      have BH:=bF Bb.out 0
      have BI:=bF Bb.out 1
      have BJ:=bF Bb.out 2
      have BK:=cz0 Ba.out
      have BL:=cz1 Ba.out
      have BM:=cz2 Ba.out
      have BN:=bF Ba.out 0
      have BO:=bF Ba.out 1
      have BP:=bF Ba.out 2
      obtain ⟨Ao29,co29,eo29⟩:=rC Bc.out
      subst eo29
      go_wp2
      refine bodyPost_ret (results_ct rfl _ _ Bd 51 #[.int .i64 0,.slice Ao29 x121001_2.length co29,.slice none 0 0] (0,0) _ rfl (by (with_reducible repeat (first|refine bN ?_ _|refine bD ?_|refine bA ?_ _));refine bT (cs:=#[.int .i64 0,.slice Ao29 x121001_2.length co29,.slice none 0 0]) ?_ 2 _ rfl;(with_reducible repeat (first|refine bN ?_ _|refine bD ?_|refine bA ?_ _));refine bT (cs:=#[.int .i64 0,.slice none 0 0,.slice none 0 0]) ?_ 1 _ rfl;(with_reducible repeat (first|refine bN ?_ _|refine bD ?_|refine bA ?_ _));refine bT (cs:=#[.int .i64 0,.slice none 0 0,.slice none 0 0]) ?_ 0 _ rfl;(with_reducible repeat (first|refine bN ?_ _|refine bD ?_|refine bA ?_ _));exact Ba.out) Try.underlying51 rfl (by kernel_rfl)) rfl ?_
      exact ⟨_,_,by first|rfl|(simp [errW_none,errW_some] <;> rfl)|(simp [*,errW_none,errW_some] <;> rfl),by (with_reducible repeat (first|apply rA|apply rN|apply rD));exact rM (rF (p:=⟨Bd,2,none⟩) (rF (p:=⟨Bd,1,none⟩) (rF (p:=⟨Bd,0,none⟩) (rT Bc.out Ba.out (by decide)) (fun _ hk=>hk.2) (.int .i64 0)) (fun _ hk=>hk.2) (.slice Ao29 x121001_2.length co29)) (fun _ hk=>hk.2) (.slice none 0 0)) (fun _ hk=>trivial),by first|exact Kd.R_nil _ _ _ _ _|exact Kd.N_nil _ _ _ _ _|exact Kd.V_nil _ _ _ _ _|exact Kd.Q_nil _ _ _ _ _|exact Kd.S_nil _ _ _ _ _,by repeat (first|(with_reducible first|exact HB.out|apply oA|apply pN|apply o1|refine bS ?_ Bf.out|refine bS ?_ Bj.out)|exact HB.out)⟩
     rw [if_pos c18] at H
     have c18b0:decide (x23_2<(y117.length:Int))=true:=dT c18
     clear c18
     by_cases c19:0≤x23_2
     rotate_left
     ·rw [if_neg c19] at H
      exact absurd H (by simp)
     rw [if_pos c19] at H
     have c19b0:decide (0≤x23_2)=true:=dT c19
     clear c19
     by_cases c20:x23_2<(x121001_2.length:Int)
     rotate_left
     ·rw [if_neg c20] at H
      exact absurd H (by simp)
     rw [if_pos c20] at H
     have c20b0:decide (x23_2<(x121001_2.length:Int))=true:=dT c20
     clear c20
     obtain ⟨y121,hy121⟩:∃ y_:List (S57),y_=(x121001_2.set (x23_2:Int).toNat (⟨(rd_T57 x121001_2 x23_2).f0,(rd_T57 x121001_2 x23_2).f1,a1,(rd_T57 x121001_2 x23_2).f3⟩:S57)):=⟨_,rfl⟩
     replace H:(impl_LockNew.l0 k2 a1 (y117.length:Int) (wrap64 (x23_2 + 1)) 0 y121)=some (r1,r2,r3,r4):=by first|(rw [hy121];with_reducible exact H)|(have H2_:=(Option.bind_some _ _).symm.trans H;rw [hy121];with_reducible exact H2_)|(have H2_:=(Option.bind_some _ _).symm.trans H;with_reducible exact H2_)|with_reducible exact H|(rw [hy121];exact H)|exact H
     have Ny121:=Am hy121
     clear hy121
     have H':=Am H
     clear H
     have BU:=Bh.out
     have BV:=Bg.out
     have By:=cz0 Bb.out
     have Bz:=cz1 Bb.out
     have BA:=cz2 Bb.out
     have BB:=bF Bb.out 0
     have BC:=bF Bb.out 1
     have BD:=bF Bb.out 2
     have p21:0≤(x23_2:Int):=oE (by first|(with_reducible assumption)|assumption)
     have q21:(x23_2:Int)<((x121001_2.length:Int):Int):=oE (by first|(with_reducible assumption)|assumption)
     obtain ⟨go21,co21,eo21,Bw,gl21,cl21,HG21⟩:=Kd.R_form Bc.out (by omega)
     (first|cases eo21|(injection eo21 with ea_ en_ ec_;(first|subst ea_|(injection ea_ with ea_;subst ea_));subst ec_;clear en_))
     have GB21:=Am Bw
     have GG21:=Am HG21
     clear Bw gl21 HG21
     obtain ⟨ce21,hcl21,hM21,hcc21,hfr21⟩:=rS Bc.out z57 (x23_2:Int) p21 q21
     obtain rfl:=k57_openM hM21
     have hx21_0:wr.cell? ⟨go21,(x23_2:Int).toNat * 4,none⟩=some (.int .i64 ((rd_T57 x121001_2 x23_2).f0)):=hcc21 0 _ rfl
     have hx21_1:wr.cell? ⟨go21,(x23_2:Int).toNat * 4 + 1,none⟩=some (.int .i64 ((rd_T57 x121001_2 x23_2).f1)):=hcc21 1 _ rfl
     have hx21_2:wr.cell? ⟨go21,(x23_2:Int).toNat * 4 + 2,none⟩=some (.int .i64 ((rd_T57 x121001_2 x23_2).f2)):=hcc21 2 _ rfl
     have hx21_3:wr.cell? ⟨go21,(x23_2:Int).toNat * 4 + 3,none⟩=some (.bool ((rd_T57 x121001_2 x23_2).f3)):=hcc21 3 _ rfl
     have hf21_0:wr.frozen? ⟨go21,(x23_2:Int).toNat * 4,none⟩=false:=hfr21 0
     have hf21_1:wr.frozen? ⟨go21,(x23_2:Int).toNat * 4 + 1,none⟩=false:=hfr21 1
     have hf21_2:wr.frozen? ⟨go21,(x23_2:Int).toNat * 4 + 2,none⟩=false:=hfr21 2
     have hf21_3:wr.frozen? ⟨go21,(x23_2:Int).toNat * 4 + 3,none⟩=false:=hfr21 3
     clear hcl21 hcc21 hfr21 hM21
     replace p21:=eq_true p21
     replace q21:=eq_true q21
     have HX24:=Am (show Kd.R k57 57 wr w.heap.size (fun _=>True) (.slice (some ⟨go21,0,none⟩) x121001_2.length co21) x121001_2 from (rL Bc.out))
     obtain ⟨ce24,hcl24,hM24,hcc24,hfr24⟩:=rS HX24.out z57 (x23_2:Int) (oE (by first|(with_reducible assumption)|assumption)) (by have h_:(x23_2:Int)<((x121001_2.length:Int):Int):=oE (by first|(with_reducible assumption)|assumption);first|exact h_|(have e_:=(rR Bc.out).1;omega)|simpa using h_)
     obtain rfl:=k57_openM hM24
     have HP24:=Kd.R_seg HX24.out (x23_2:Int) (oE (by first|(with_reducible assumption)|assumption)) (by have h_:(x23_2:Int)<((x121001_2.length:Int):Int):=oE (by first|(with_reducible assumption)|assumption);first|exact h_|(have e_:=(rR Bc.out).1;omega)|simpa using h_) (seg:=[.int .i64 a1]) (j:=2) hcl24 hcc24 (show 3≤4 from by decide) (x':=(⟨(rd_T57 x121001_2 x23_2).f0,(rd_T57 x121001_2 x23_2).f1,a1,(rd_T57 x121001_2 x23_2).f3⟩:S57)) (k57_mkM _ _ _ (⟨(rd_T57 x121001_2 x23_2).f0,(rd_T57 x121001_2 x23_2).f1,a1,(rd_T57 x121001_2 x23_2).f3⟩:S57) ) (fun _ hk=>hk)
     have hx24_2:=hcc24 2 _ rfl
     (try simp only [show (k57).sz=4 from rfl,Nat.mul_one,Nat.add_zero] at hx24_2)
     have hf24_2:=hfr24 2
     (try simp only [show (k57).sz=4 from rfl,Nat.mul_one,Nat.add_zero] at hf24_2)
     clear hcl24 hcc24 hfr24 hM24
     go_wp2_with (first|((with_reducible refine gS (t:=3) (p:=31) rfl ?_);refine sE (t:=3) (p:=31) (v:=?vo_w25) (w1:=(wr.setCell ⟨go21,(x23_2:Int).toNat * 4 + 2,none⟩ (.int .i64 a1))) ?hg ?ho ?hn ?hr ?_;(case ho=>rfl);(case hg=>rfl);(case hn=>rfl);(case hr=>first|(go_simp;done)|(go_simp;rfl));intro w25 hw;have hg:wr.grownBy w25 (some go21):=(by rw [hw];exact HP24.2);have hp_:Kd.R k57 57 w25 w.heap.size (fun _=>True) (.slice (some ⟨go21,0,none⟩) x121001_2.length co21) y121:=(by rw [hw,Ny121.out];exact HP24.1);clear HP24;have n0_:=Am (hp_);have n1_:=Am (bG (g:=Bd) (o:=.cells #[.int .i64 0,.slice none 0 0,.slice none 0 0] 51 (0,0)) (bL Ba.out) hg (rE Bc.out Ba.out (by decide)));have n2_:=Am (bG (g:=Be) (o:=.cells #[.int .i64 0,.slice (some ⟨go21,0,none⟩) x121001_2.length co21,.slice none 0 0] 51 (0,0)) (bL Bb.out) hg (rE Bc.out Bb.out (by decide)));have n3_:=Am ((by rw [hw];exact bS (HB.out) GB21.out:Below w.heap.size w w25));clear Bc Ba Bb HB;revert n0_ n1_ n2_ n3_;intro Bc Ba Bb HB;clear hg hw hp_))
     go_roundg k2
     case measure=>have:=Bx.out;have:=HK2.out;omega
     case rel=>exact ⟨(wrap64 (x23_2 + 1)),(y121),(.slice (some ⟨go21,0,none⟩) x121001_2.length co21),(by first|rfl|(simp;done)|(simp [*];done)),H',⟨by have:=Bx.out;have:=HK2.out;omega⟩,⟨by (with_reducible repeat (first|apply rA|apply rN|apply rD));exact Bc.out⟩,⟨by (with_reducible repeat (first|refine bN ?_ _|refine bD ?_|refine bA ?_ _));exact Ba.out⟩,⟨by (with_reducible repeat (first|refine bN ?_ _|refine bD ?_|refine bA ?_ _));exact Bb.out⟩,⟨by repeat (first|(with_reducible first|exact HB.out|apply oA|apply pN|apply o1|refine bS ?_ Bf.out|refine bS ?_ Bj.out)|exact HB.out)⟩⟩/-! ### spec_l6In: function 51 -/
def spec_l6In.f (a0 : Int) (a1 : Int) (a2 : Int) : Option (Bool) := if a0 ≥ a1 then (some (decide (a0 ≤ a2))) else (some false)
set_option maxHeartbeats 2000000 in
set_option maxRecDepth 100000 in
theorem spec_l6In.calls (a0:Int) (a1:Int) (a2:Int) (r:Bool) (w:World) (h:spec_l6In.f a0 a1 a2=some r) :
  Calls Try.prog 51 #[.int .i64 a0,.int .i64 a1,.int .i64 a2] w fun e w'=>e=.returned (.bool r)∧Drawn0 w w':=by
 have H:(if a0 ≥ a1 then (some (decide (a0≤a2))) else (some false))=some r:=h
 clear h
 by_cases c4:a0 ≥ a1
 ·rw [if_pos c4] at H
  have c4b0:decide (a1≤a0)=true:=dT c4
  clear c4
  obtain rfl:=oJ H
  go_enter Try.func51,Try.ntmps51
  go_wp2
  go_ret
  exact ⟨by first|rfl|(simp;done)|(simp [*];done),by repeat (first|exact Drawn0.refl _|apply Drawn0.step)⟩
 rw [if_neg c4] at H
 have c4b0:decide (a1≤a0)=false:=dF c4
 clear c4
 obtain rfl:=oJ H
 go_enter Try.func51,Try.ntmps51
 go_wp2
 go_ret
 exact ⟨by first|rfl|(simp;done)|(simp [*];done),by repeat (first|exact Drawn0.refl _|apply Drawn0.step)⟩

end Go.Proofs.Ytpdfkbggaihfpaa.PFnLockWord
