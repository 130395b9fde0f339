/- Proved here, without a condition beyond those that each theorem states: what the Go functions named below do is what the plain functions of the same names say. Written by xprint.py, a program of this session. -/
import Derived.Test.YtpdfkbggaihfpaaPFnLockOnex0
import Derived.Test.YtpdfkbggaihfpaaPFnLockOnex7
import Derived.Test.YtpdfkbggaihfpaaPFnLockOnex8
namespace Go.Proofs.Ytpdfkbggaihfpaa.PFnLockOne
open Go.RowKit Go.Proofs.YtpdfkbggaihfpaaW.PrintWords Go.Proofs.YtpdfkbggaihfpaaW.PrintLast Go.Proofs.YtpdfkbggaihfpaaW.PrintMore
attribute [local go_sem] max2_int min2_int max_two min_two max_three min_three max_four min_four   -- for this text's walks alone
set_option linter.unusedVariables false
set_option linter.unusedSimpArgs false

attribute [local go_sem ↓] isSome_setCell_
/-! ### impl_LockStuck: function 39 -/
mutual
def impl_LockStuck.j0 : Nat → Bool → Int → List (S57) → List Int → Option (Bool)
|0, _, _, _, _ => none
|k + 1, x12, x245000, x245001, x245002 => if x12 = true then (some false) else (impl_LockStuck.l0 k (x245001.length : Int) 0 x245000 x245001 x245002)
def impl_LockStuck.l0 : Nat → Int → Int → Int → List (S57) → List Int → Option (Bool)
|0, _, _, _, _, _ => none
|k + 1, x15, x16, x245000, x245001, x245002 => if x16 < x15 then ((impl_Lock_can.f x245000 x245001 x245002 x16).bind fun t246 => (if t246 = true then (some false) else (impl_LockStuck.l0 k x15 (wrap64 (x16 + 1)) x245000 x245001 x245002))) else (some true)
end
def impl_LockStuck.f (k : Nat) (a0_0 : Int) (l0_1 : List (S57)) (l0_2 : List Int) : Option (Bool) := (impl_LockOk.f k a0_0 l0_1 l0_2).bind fun t245 => (if t245 = true then (impl_LockStuck.j0 k ((l0_2.length : Int) == 0) a0_0 l0_1 l0_2) else (impl_LockStuck.j0 k true a0_0 l0_1 l0_2))
theorem impl_LockStuck.mono_l : ∀ k, (∀ y0 y1 y2 y3, LeO (impl_LockStuck.j0 k y0 y1 y2 y3) (impl_LockStuck.j0 (k + 1) y0 y1 y2 y3)) ∧ (∀ y0 y1 y2 y3 y4, LeO (impl_LockStuck.l0 k y0 y1 y2 y3 y4) (impl_LockStuck.l0 (k + 1) y0 y1 y2 y3 y4))
|0 => ⟨fun _ _ _ _ r h => by simp [impl_LockStuck.j0] at h, fun _ _ _ _ _ r h => by simp [impl_LockStuck.l0] at h⟩
|k + 1 => by
  obtain ⟨ih0, ih1⟩ := impl_LockStuck.mono_l k
  refine ⟨?_, ?_⟩
  ·intro y0 y1 y2 y3
   unfold impl_LockStuck.j0
   repeat' first
  |(with_reducible exact ih0 _ _ _ _)
  |(with_reducible exact ih1 _ _ _ _ _)
  |(with_reducible exact impl_LockOk.mono _ _ _ _)
  |(with_reducible exact LeO.refl _)
  |(with_reducible exact LeO.none _)
  |(with_reducible refine LeO.ite ?_ ?_)
  |(with_reducible refine LeO.bind ?_ (fun _ => ?_))
  |exact ih0 _ _ _ _
  |exact ih1 _ _ _ _ _
  |exact impl_LockOk.mono _ _ _ _
  |exact LeO.none _
  |refine LeO.ite ?_ ?_
  |refine LeO.bind ?_ (fun _ => ?_)
  ·intro y0 y1 y2 y3 y4
   unfold impl_LockStuck.l0
   repeat' first
  |(with_reducible exact ih0 _ _ _ _)
  |(with_reducible exact ih1 _ _ _ _ _)
  |(with_reducible exact impl_LockOk.mono _ _ _ _)
  |(with_reducible exact LeO.refl _)
  |(with_reducible exact LeO.none _)
  |(with_reducible refine LeO.ite ?_ ?_)
  |(with_reducible refine LeO.bind ?_ (fun _ => ?_))
  |exact ih0 _ _ _ _
  |exact ih1 _ _ _ _ _
  |exact impl_LockOk.mono _ _ _ _
  |exact LeO.none _
  |refine LeO.ite ?_ ?_
  |refine LeO.bind ?_ (fun _ => ?_)
theorem impl_LockStuck.mono : ∀ a0 a1 a2 k, LeO (impl_LockStuck.f k a0 a1 a2) (impl_LockStuck.f (k + 1) a0 a1 a2) := by
 intro a0 a1 a2 k
 obtain ⟨ih0, ih1⟩ := impl_LockStuck.mono_l k
 unfold impl_LockStuck.f
 repeat' first
  |(with_reducible exact ih0 _ _ _ _)
  |(with_reducible exact ih1 _ _ _ _ _)
  |(with_reducible exact impl_LockOk.mono _ _ _ _)
  |(with_reducible exact LeO.refl _)
  |(with_reducible exact LeO.none _)
  |(with_reducible refine LeO.ite ?_ ?_)
  |(with_reducible refine LeO.bind ?_ (fun _ => ?_))
  |exact ih0 _ _ _ _
  |exact ih1 _ _ _ _ _
  |exact impl_LockOk.mono _ _ _ _
  |exact LeO.none _
  |refine LeO.ite ?_ ?_
  |refine LeO.bind ?_ (fun _ => ?_)
set_option maxHeartbeats 2000000 in
set_option maxRecDepth 100000 in
theorem impl_LockStuck.calls (k:Nat) (a0_0:Int) (A0_1:Option Addr) (c0_1:Nat) (l0_1:List (S57)) (A0_2:Option Addr) (c0_2:Nat) (l0_2:List Int) (r:Bool) (w:World) (hr0_1:Kd.C k57 w A0_1 l0_1.length l0_1) (hc0_1:l0_1.length≤c0_1) (hr0_2:Kd.C (Kd.int .i64) w A0_2 l0_2.length l0_2) (hc0_2:l0_2.length≤c0_2) (h:impl_LockStuck.f k a0_0 l0_1 l0_2=some r) :
  Calls Try.prog 39 #[.agg #[.int .i64 a0_0,.slice A0_1 l0_1.length c0_1,.slice A0_2 l0_2.length c0_2]] w fun e w'=>e=.returned (.bool r)∧Below w.heap.size w w':=by
 have hu51:=Try.underlying51
 have HR0_1:=Am hr0_1
 have HC0_1:=Am hc0_1
 clear hr0_1 hc0_1
 have HR0_2:=Am hr0_2
 have HC0_2:=Am hc0_2
 clear hr0_2 hc0_2
 have HB:=Am (bJ w.heap.size w)
 have H:((impl_LockOk.f k a0_0 l0_1 l0_2).bind fun t245=>(if t245=true then (impl_LockStuck.j0 k ((l0_2.length:Int) == 0) a0_0 l0_1 l0_2) else (impl_LockStuck.j0 k true a0_0 l0_1 l0_2)))=some r:=h
 clear h
 have HC2:=Am H
 clear H
 go_enter Try.func39,Try.ntmps39
 go_upto_region 1 with (first|((with_reducible refine gD (N:=1) rfl ?_);(try (refine gate_guard (by rfl) ?_;dsimp only));refine bI ?hg (N:=1) ?hd (cs:=#[.int .i64 a0_0,.slice A0_1 l0_1.length c0_1,.slice A0_2 l0_2.length c0_2]) (t:=51) ?hr ?_;(case hd=>rfl);(case hg=>rfl);(case hr=>first|(go_simp;done)|(go_simp;rfl));intro Bb hg w3 hbox hb;have n0_:=Am (bP (by repeat (first|(with_reducible first|exact HB.out|apply oA|apply pN|apply o1)|exact HB.out)) hb);have n1_:=Am (hbox);have n2_:=Am ((by rw [hg];exact (bZ (by repeat (first|(with_reducible first|exact HB.out|apply oA|apply pN|apply o1)|exact HB.out))):w.heap.size≤Bb));have n3_:=Am ((by rw [hg];exact (bZ (by repeat (first|(with_reducible first|exact HB.out|apply oA|apply pN|apply o1)|exact HB.out))):w.heap.size≤Bb));clear HB;revert n0_ n1_ n2_ n3_;intro HB Ba BO Bc;clear hb hbox hg))
 (try simp only [Act.put,lA,lZ,lS])
 go_cut [12] (fun v12 wc=>∃ (kq:Nat) (x12_1:Bool),v12=.bool x12_1∧Aside0 (impl_LockStuck.j0 kq x12_1 a0_0 l0_1 l0_2=some r)∧Aside0 (kq≤k)∧Aside0 (wc.heap[Bb]?=some (.cells #[.int .i64 a0_0,(.slice A0_1 l0_1.length c0_1),(.slice A0_2 l0_2.length c0_2)] 51 (0,0)))∧Aside0 (Below w.heap.size w wc))
 case first =>
  have H:=HC2.out
  clear HC2
  replace H:=oC H
  obtain ⟨t245,A40,H⟩:=H
  replace H:(if t245=true then (impl_LockStuck.j0 k ((l0_2.length:Int) == 0) a0_0 l0_1 l0_2) else (impl_LockStuck.j0 k true a0_0 l0_1 l0_2))=some r:=H
  have A4:=Am A40
  clear A40
  by_cases c5:t245=true
  rotate_left
  ·replace c5:=Bool.eq_false_iff.mpr c5
   subst c5
   have H1:(impl_LockStuck.j0 k true a0_0 l0_1 l0_2)=some r:=by rw [if_neg (show ¬ (false=true) by decide)] at H;exact H
   clear H
   have H:=H1
   clear H1
   have H':=Am H
   clear H
   have Bp:=cz0 Ba.out
   have Bq:=cz1 Ba.out
   have Br:=cz2 Ba.out
   have Bs:=bF Ba.out 0
   have Bt:=bF Ba.out 1
   have Bu:=bF Ba.out 2
   go_wp2_with (first|((with_reducible refine gC (f:=60) rfl ?_);refine goesL_ (some 5) rfl rfl Try.func60 (by kernel_rfl) rfl #[.agg #[.int .i64 a0_0,.slice A0_1 l0_1.length c0_1,.slice A0_2 l0_2.length c0_2]] rfl (by (try simp only [lM,lC,lN]);first|done|rfl|(simp only [lD,lT];rfl)) ?_;(with_reducible refine (impl_LockOk.calls k a0_0 _ _ l0_1 _ _ l0_2 false _ ?side1 ?side2 ?side3 ?side4 A4.out).mono ?_);(case side1=>exact cL (cB HR0_1.out HB.out));(case side2=>exact HC0_1.out);(case side3=>exact cL (cB HR0_2.out HB.out));(case side4=>exact HC0_2.out);rintro e w10 ⟨rfl,hb⟩;refine ⟨_,rfl,?_⟩;have n0_:=Am (bX Ba.out hb);have n1_:=Am (bP (by repeat (first|(with_reducible first|exact HB.out|apply oA|apply pN|apply o1|refine bS ?_ Bc.out)|exact HB.out)) hb);clear Ba HB;revert n0_ n1_;intro Ba HB;(try clear hb);(try clear hb2);(try clear hk);(try clear hi)))
   go_meet
   case rel=>exact ⟨_,(true),(by first|rfl|(simp;done)|(simp [*];done)),H',⟨by first|omega|exact nR _⟩,⟨by (with_reducible repeat (first|refine bN ?_ _|refine bD ?_|refine bA ?_ _));exact Ba.out⟩,⟨by repeat (first|(with_reducible first|exact HB.out|apply oA|apply pN|apply o1|refine bS ?_ Bc.out)|exact HB.out)⟩⟩
  subst c5
  have H1:(impl_LockStuck.j0 k ((l0_2.length:Int) == 0) a0_0 l0_1 l0_2)=some r:=by rw [if_pos rfl] at H;exact H
  clear H
  have H:=H1
  clear H1
  have H':=Am H
  clear H
  have Bd:=cz0 Ba.out
  have Be:=cz1 Ba.out
  have Bf:=cz2 Ba.out
  have Bg:=bF Ba.out 0
  have Bh:=bF Ba.out 1
  have Bi:=bF Ba.out 2
  go_wp2_with (first|((with_reducible refine gC (f:=60) rfl ?_);refine goesL_ (some 5) rfl rfl Try.func60 (by kernel_rfl) rfl #[.agg #[.int .i64 a0_0,.slice A0_1 l0_1.length c0_1,.slice A0_2 l0_2.length c0_2]] rfl (by (try simp only [lM,lC,lN]);first|done|rfl|(simp only [lD,lT];rfl)) ?_;(with_reducible refine (impl_LockOk.calls k a0_0 _ _ l0_1 _ _ l0_2 true _ ?side1 ?side2 ?side3 ?side4 A4.out).mono ?_);(case side1=>exact cL (cB HR0_1.out HB.out));(case side2=>exact HC0_1.out);(case side3=>exact cL (cB HR0_2.out HB.out));(case side4=>exact HC0_2.out);rintro e w7 ⟨rfl,hb⟩;refine ⟨_,rfl,?_⟩;have n0_:=Am (bX Ba.out hb);have n1_:=Am (bP (by repeat (first|(with_reducible first|exact HB.out|apply oA|apply pN|apply o1|refine bS ?_ Bc.out)|exact HB.out)) hb);clear Ba HB;revert n0_ n1_;intro Ba HB;(try clear hb);(try clear hb2);(try clear hk);(try clear hi);have Bj:=cz0 Ba.out;have Bk:=cz1 Ba.out;have Bl:=cz2 Ba.out;have Bm:=bF Ba.out 0;have Bn:=bF Ba.out 1;have Bo:=bF Ba.out 2))
  go_meet
  case rel=>exact ⟨_,(((l0_2.length:Int) == 0)),(by first|rfl|(simp;done)|(simp [*];done)),H',⟨by first|omega|exact nR _⟩,⟨by (with_reducible repeat (first|refine bN ?_ _|refine bD ?_|refine bA ?_ _));exact Ba.out⟩,⟨by repeat (first|(with_reducible first|exact HB.out|apply oA|apply pN|apply o1|refine bS ?_ Bc.out)|exact HB.out)⟩⟩
 case rest =>
  clear HC2
  try clear p2
  try clear c3
  try clear c5
  try clear c6
  try clear Bd
  try clear Be
  try clear Bf
  try clear Bj
  try clear Bk
  try clear Bl
  try clear Bp
  try clear Bq
  try clear Br
  try clear Bg
  try clear Bh
  try clear Bi
  try clear Bm
  try clear Bn
  try clear Bo
  try clear Bs
  try clear Bt
  try clear Bu
  obtain ⟨kq,x12_1,rfl,HA,BB,Ba,HB⟩:=hcut
  cases kq with
 |zero=>exact absurd HA.out (by simp [impl_LockStuck.j0])
 |succ kj1 =>
   have H:=HA.out
   clear HA
   simp only [impl_LockStuck.j0] at H
   by_cases c11:x12_1=true
   ·subst c11
    have H1:(some false)=some r:=by rw [if_pos rfl] at H;exact H
    clear H
    have H:=H1
    clear H1
    obtain rfl:=oJ H
    go_wp2
    go_ret
    exact ⟨by first|rfl|(simp [errW_none,errW_some] <;> rfl)|(simp [*,errW_none,errW_some] <;> rfl),by repeat (first|(with_reducible first|exact HB.out|apply oA|apply pN|apply o1|refine bS ?_ Bc.out)|exact HB.out)⟩
   replace c11:=Bool.eq_false_iff.mpr c11
   subst c11
   have H1:(impl_LockStuck.l0 kj1 (l0_1.length:Int) 0 a0_0 l0_1 l0_2)=some r:=by rw [if_neg (show ¬ (false=true) by decide)] at H;exact H
   clear H
   have H:=H1
   clear H1
   have H':=Am H
   clear H
   have Bv:=cz0 Ba.out
   have Bw:=cz1 Ba.out
   have Bx:=cz2 Ba.out
   have By:=bF Ba.out 0
   have Bz:=bF Ba.out 1
   have BA:=bF Ba.out 2
   go_wp2
   go_loopg [16] kj1 (fun kq v16 w'=>∃ (x16_2:Int),v16=.int .i64 x16_2∧Aside0 (impl_LockStuck.l0 kq (l0_1.length:Int) x16_2 a0_0 l0_1 l0_2=some r)∧Aside0 (kq≤kj1)∧Aside0 (w'.heap[Bb]?=some (.cells #[.int .i64 a0_0,(.slice A0_1 l0_1.length c0_1),(.slice A0_2 l0_2.length c0_2)] 51 (0,0)))∧Aside0 (Below w.heap.size w w'))
   case atStart=>exact ⟨(0),(by first|rfl|(simp;done)|(simp [*];done)),H',⟨nR _⟩,⟨by (with_reducible repeat (first|refine bN ?_ _|refine bD ?_|refine bA ?_ _));exact Ba.out⟩,⟨by repeat (first|(with_reducible first|exact HB.out|apply oA|apply pN|apply o1|refine bS ?_ Bc.out)|exact HB.out)⟩⟩
   case round =>
    clear H'
    try clear c1
    try clear p2
    try clear c3
    try clear c5
    try clear c6
    try clear c11
    try clear Bv
    try clear Bw
    try clear Bx
    try clear Bd
    try clear Be
    try clear Bf
    try clear Bj
    try clear Bk
    try clear Bl
    try clear Bp
    try clear Bq
    try clear Br
    try clear By
    try clear Bz
    try clear BA
    try clear Bg
    try clear Bh
    try clear Bi
    try clear Bm
    try clear Bn
    try clear Bo
    try clear Bs
    try clear Bt
    try clear Bu
    try clear p2
    obtain ⟨x16_2,rfl,HA,HK2,Ba,HB⟩:=hrel
    cases gk with
   |zero=>exact absurd HA.out (by simp [impl_LockStuck.l0])
   |succ k2 =>
     have H:=HA.out
     clear HA
     simp only [impl_LockStuck.l0] at H
     by_cases c13:x16_2<(l0_1.length:Int)
     rotate_left
     ·rw [if_neg c13] at H
      have c13b0:decide (x16_2<(l0_1.length:Int))=false:=dF c13
      clear c13
      obtain rfl:=oJ H
      go_wp2
      go_ret
      exact ⟨by first|rfl|(simp [errW_none,errW_some] <;> rfl)|(simp [*,errW_none,errW_some] <;> rfl),by repeat (first|(with_reducible first|exact HB.out|apply oA|apply pN|apply o1|refine bS ?_ Bc.out)|exact HB.out)⟩

     rw [if_pos c13] at H
     have c13b0:decide (x16_2<(l0_1.length:Int))=true:=dT c13
     clear c13
     replace H:=oC H
     obtain ⟨t246,A140,H⟩:=H
     replace H:(if t246=true then (some false) else (impl_LockStuck.l0 k2 (l0_1.length:Int) (wrap64 (x16_2 + 1)) a0_0 l0_1 l0_2))=some r:=H
     have A14:=Am A140
     clear A140
     by_cases c15:t246=true
     ·subst c15
      have H1:(some false)=some r:=by rw [if_pos rfl] at H;exact H
      clear H
      have H:=H1
      clear H1
      obtain rfl:=oJ H
      have BC:=cz0 Ba.out
      have BD:=cz1 Ba.out
      have BE:=cz2 Ba.out
      have BF:=bF Ba.out 0
      have BG:=bF Ba.out 1
      have BH:=bF Ba.out 2
      go_wp2_with (first|((with_reducible refine gC (f:=61) rfl ?_);refine goesL_ (some 21) rfl rfl Try.func61 (by kernel_rfl) rfl #[.agg #[.int .i64 a0_0,.slice A0_1 l0_1.length c0_1,.slice A0_2 l0_2.length c0_2],.int .i64 x16_2] rfl (by (try simp only [lM,lC,lN]);first|done|rfl|(simp only [lD,lT];rfl)) ?_;(with_reducible refine (impl_Lock_can.calls a0_0 _ _ l0_1 _ _ l0_2 x16_2 true _ ?side1 ?side2 ?side3 ?side4 A14.out).mono ?_);(case side1=>exact cL (cB HR0_1.out HB.out));(case side2=>exact HC0_1.out);(case side3=>exact cL (cB HR0_2.out HB.out));(case side4=>exact HC0_2.out);rintro e w17 ⟨rfl,hb⟩;refine ⟨_,rfl,?_⟩;have n0_:=Am (bX Ba.out hb);have n1_:=Am (bP (by repeat (first|(with_reducible first|exact HB.out|apply oA|apply pN|apply o1|refine bS ?_ Bc.out)|exact HB.out)) hb);clear Ba HB;revert n0_ n1_;intro Ba HB;(try clear hb);(try clear hb2);(try clear hk);(try clear hi)))
      go_ret
      exact ⟨by first|rfl|(simp [errW_none,errW_some] <;> rfl)|(simp [*,errW_none,errW_some] <;> rfl),by repeat (first|(with_reducible first|exact HB.out|apply oA|apply pN|apply o1|refine bS ?_ Bc.out)|exact HB.out)⟩
     replace c15:=Bool.eq_false_iff.mpr c15
     subst c15
     have H1:(impl_LockStuck.l0 k2 (l0_1.length:Int) (wrap64 (x16_2 + 1)) a0_0 l0_1 l0_2)=some r:=by rw [if_neg (show ¬ (false=true) by decide)] at H;exact H
     clear H
     have H:=H1
     clear H1
     have H':=Am H
     clear H
     have BI:=cz0 Ba.out
     have BJ:=cz1 Ba.out
     have BK:=cz2 Ba.out
     have BL:=bF Ba.out 0
     have BM:=bF Ba.out 1
     have BN:=bF Ba.out 2
     go_wp2_with (first|((with_reducible refine gC (f:=61) rfl ?_);refine goesL_ (some 21) rfl rfl Try.func61 (by kernel_rfl) rfl #[.agg #[.int .i64 a0_0,.slice A0_1 l0_1.length c0_1,.slice A0_2 l0_2.length c0_2],.int .i64 x16_2] rfl (by (try simp only [lM,lC,lN]);first|done|rfl|(simp only [lD,lT];rfl)) ?_;(with_reducible refine (impl_Lock_can.calls a0_0 _ _ l0_1 _ _ l0_2 x16_2 false _ ?side1 ?side2 ?side3 ?side4 A14.out).mono ?_);(case side1=>exact cL (cB HR0_1.out HB.out));(case side2=>exact HC0_1.out);(case side3=>exact cL (cB HR0_2.out HB.out));(case side4=>exact HC0_2.out);rintro e w19 ⟨rfl,hb⟩;refine ⟨_,rfl,?_⟩;have n0_:=Am (bX Ba.out hb);have n1_:=Am (bP (by repeat (first|(with_reducible first|exact HB.out|apply oA|apply pN|apply o1|refine bS ?_ Bc.out)|exact HB.out)) hb);clear Ba HB;revert n0_ n1_;intro Ba HB;(try clear hb);(try clear hb2);(try clear hk);(try clear hi)))
     go_roundg k2
     case measure=>have:=BB.out;have:=HK2.out;omega
     case rel=>exact ⟨(wrap64 (x16_2 + 1)),(by first|rfl|(simp;done)|(simp [*];done)),H',⟨by have:=BB.out;have:=HK2.out;omega⟩,⟨by (with_reducible repeat (first|refine bN ?_ _|refine bD ?_|refine bA ?_ _));exact Ba.out⟩,⟨by repeat (first|(with_reducible first|exact HB.out|apply oA|apply pN|apply o1|refine bS ?_ Bc.out)|exact HB.out)⟩⟩
end Go.Proofs.Ytpdfkbggaihfpaa.PFnLockOne
