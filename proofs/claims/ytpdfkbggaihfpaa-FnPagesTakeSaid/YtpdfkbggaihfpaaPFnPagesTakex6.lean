/- Proved here, without a condition beyond those that each theorem states: what the Go functions named below do is what the plain functions of the same names say. Written by xprint.py, a program of this session. -/
import Derived.Test.YtpdfkbggaihfpaaPFnPagesTakex0
import Derived.Test.YtpdfkbggaihfpaaPFnPagesTakex1
import Derived.Test.YtpdfkbggaihfpaaPFnPagesTakex3
namespace Go.Proofs.Ytpdfkbggaihfpaa.PFnPagesTake
open Go.RowKit Go.Proofs.YtpdfkbggaihfpaaW.PrintWords Go.Proofs.YtpdfkbggaihfpaaW.PrintLast Go.Proofs.YtpdfkbggaihfpaaW.PrintMore
attribute [local go_sem] max2_int min2_int max_two min_two max_three min_three max_four min_four   -- for this text's walks alone
set_option linter.unusedVariables false
set_option linter.unusedSimpArgs false

attribute [local go_sem ↓] isSome_setCell_
/-! ### impl_Pages_has: function 55 -/
def impl_Pages_has.f (l0_0 : List ByteArray) (l0_1 : List Int) (a1 : Int) : Option (Bool) := (impl_in.f a1 0 (wrap64 ((l0_1.length : Int) - 1))).bind fun t150 => (if t150 = true then (if 0 ≤ a1 then (if a1 < (l0_1.length : Int) then (some (decide ((rd l0_1 a1) > 0))) else (none)) else (none)) else (some false))
set_option maxHeartbeats 2000000 in
set_option maxRecDepth 100000 in
theorem impl_Pages_has.calls (A0_0:Option Addr) (c0_0:Nat) (l0_0:List ByteArray) (A0_1:Option Addr) (c0_1:Nat) (l0_1:List Int) (a1:Int) (r:Bool) (w:World) (hr0_0:Kd.C Kd.string w A0_0 l0_0.length l0_0) (hc0_0:l0_0.length≤c0_0) (hr0_1:Kd.C (Kd.int .i64) w A0_1 l0_1.length l0_1) (hc0_1:l0_1.length≤c0_1) (h:impl_Pages_has.f l0_0 l0_1 a1=some r) :
  Calls Try.prog 55 #[.agg #[.slice A0_0 l0_0.length c0_0,.slice A0_1 l0_1.length c0_1],.int .i64 a1] w fun e w'=>e=.returned (.bool r)∧Below w.heap.size w w':=by
 have hu26:=Try.underlying26
 have HR0_0:=Am hr0_0
 have HC0_0:=Am hc0_0
 clear hr0_0 hc0_0
 have HR0_1:=Am hr0_1
 have HC0_1:=Am hc0_1
 clear hr0_1 hc0_1
 have HB:=Am (bJ w.heap.size w)
 have H:((impl_in.f a1 0 (wrap64 ((l0_1.length:Int) - 1))).bind fun t150=>(if t150=true then (if 0≤a1 then (if a1<(l0_1.length:Int) then (some (decide ((rd l0_1 a1) > 0))) else (none)) else (none)) else (some false)))=some r:=h
 clear h
 replace H:=oC H
 obtain ⟨t150,A30,H⟩:=H
 replace H:(if t150=true then (if 0≤a1 then (if a1<(l0_1.length:Int) then (some (decide ((rd l0_1 a1) > 0))) else (none)) else (none)) else (some false))=some r:=H
 have A3:=Am A30
 clear A30
 by_cases c4:t150=true
 rotate_left
 ·replace c4:=Bool.eq_false_iff.mpr c4
  subst c4
  have H1:(some false)=some r:=by rw [if_neg (show ¬ (false=true) by decide)] at H;exact H
  clear H
  have H:=H1
  clear H1
  obtain rfl:=oJ H
  go_enter Try.func55,Try.ntmps55
  go_wp2_with (first|((with_reducible refine gD (N:=2) rfl ?_);refine bI ?hg (N:=2) ?hd (cs:=#[.slice A0_0 l0_0.length c0_0,.slice A0_1 l0_1.length c0_1]) (t:=26) ?hr ?_;(case hd=>rfl);(case hg=>rfl);(case hr=>first|(go_simp;done)|(go_simp;rfl));intro Ba hg w9 hbox hb;have n0_:=Am (bP (by repeat (first|(with_reducible first|exact HB.out|apply oA|apply pN|apply o1)|exact HB.out)) hb);have n1_:=Am (hbox);have n2_:=Am ((by rw [hg];exact (bZ (by repeat (first|(with_reducible first|exact HB.out|apply oA|apply pN|apply o1)|exact HB.out))):w.heap.size≤Ba));have n3_:=Am ((by rw [hg];exact (bZ (by repeat (first|(with_reducible first|exact HB.out|apply oA|apply pN|apply o1)|exact HB.out))):w.heap.size≤Ba));clear HB;revert n0_ n1_ n2_ n3_;intro HB Bb Bd Bc;clear hb hbox hg;have Be:=cz0 Bb.out;have Bf:=cz1 Bb.out;have Bg:=bF Bb.out 0;have Bh:=bF Bb.out 1)|((with_reducible refine gC (f:=48) rfl ?_);refine goesL_ (some 10) rfl rfl Try.func48 (by kernel_rfl) rfl #[.int .i64 a1,.int .i64 0,.int .i64 (wrap64 ((l0_1.length:Int) - 1))] rfl (by (try simp only [lM,lC,lN]);first|done|rfl|(simp only [lD,lT];rfl)) ?_;(with_reducible refine (impl_in.calls a1 0 (wrap64 ((l0_1.length:Int) - 1)) false _ A3.out).mono ?_);rintro e w' ⟨rfl,⟨nd,rfl⟩⟩;refine ⟨_,rfl,?_⟩))
  go_ret
  exact ⟨by first|rfl|(simp [errW_none,errW_some] <;> rfl)|(simp [*,errW_none,errW_some] <;> rfl),by repeat (first|(with_reducible first|exact HB.out|apply oA|apply pN|apply o1|refine bS ?_ Bc.out)|exact HB.out)⟩


 subst c4
 have H1:(if 0≤a1 then (if a1<(l0_1.length:Int) then (some (decide ((rd l0_1 a1) > 0))) else (none)) else (none))=some r:=by rw [if_pos rfl] at H;exact H
 clear H
 have H:=H1
 clear H1
 by_cases c5:0≤a1
 rotate_left
 ·rw [if_neg c5] at H
  exact absurd H (by simp)
 rw [if_pos c5] at H
 have c5b0:decide (0≤a1)=true:=dT c5
 clear c5
 by_cases c6:a1<(l0_1.length:Int)
 rotate_left
 ·rw [if_neg c6] at H
  exact absurd H (by simp)
 rw [if_pos c6] at H
 have c6b0:decide (a1<(l0_1.length:Int))=true:=dT c6
 clear c6
 obtain rfl:=oJ H
 go_enter Try.func55,Try.ntmps55
 go_wp2_with (first|((with_reducible refine gD (N:=2) rfl ?_);refine bI ?hg (N:=2) ?hd (cs:=#[.slice A0_0 l0_0.length c0_0,.slice A0_1 l0_1.length c0_1]) (t:=26) ?hr ?_;(case hd=>rfl);(case hg=>rfl);(case hr=>first|(go_simp;done)|(go_simp;rfl));intro Ba hg w7 hbox hb;have n0_:=Am (bP (by repeat (first|(with_reducible first|exact HB.out|apply oA|apply pN|apply o1)|exact HB.out)) hb);have n1_:=Am (hbox);have n2_:=Am ((by rw [hg];exact (bZ (by repeat (first|(with_reducible first|exact HB.out|apply oA|apply pN|apply o1)|exact HB.out))):w.heap.size≤Ba));have n3_:=Am ((by rw [hg];exact (bZ (by repeat (first|(with_reducible first|exact HB.out|apply oA|apply pN|apply o1)|exact HB.out))):w.heap.size≤Ba));clear HB;revert n0_ n1_ n2_ n3_;intro HB Bb Bd Bc;clear hb hbox hg;have Bi:=cz0 Bb.out;have Bj:=cz1 Bb.out;have Bk:=bF Bb.out 0;have Bl:=bF Bb.out 1)|((with_reducible refine gC (f:=48) rfl ?_);refine goesL_ (some 10) rfl rfl Try.func48 (by kernel_rfl) rfl #[.int .i64 a1,.int .i64 0,.int .i64 (wrap64 ((l0_1.length:Int) - 1))] rfl (by (try simp only [lM,lC,lN]);first|done|rfl|(simp only [lD,lT];rfl)) ?_;(with_reducible refine (impl_in.calls a1 0 (wrap64 ((l0_1.length:Int) - 1)) true _ A3.out).mono ?_);rintro e w' ⟨rfl,⟨nd,rfl⟩⟩;refine ⟨_,rfl,?_⟩;have p151:0≤(a1:Int):=oE (by first|(with_reducible assumption)|assumption);have q151:a1<(l0_1.length:Int):=oE (by first|(with_reducible assumption)|assumption);obtain ⟨ad151,e151,hx151_0⟩:=Kd.at_int HR0_1.out a1 p151 q151;cases e151;replace hx151_0:=(HB.out.cell (World.block_lt_of_cell? w _ hx151_0)).trans hx151_0;replace p151:=eq_true p151;replace q151:=eq_true q151))
 go_ret
 exact ⟨by first|rfl|(simp [errW_none,errW_some] <;> rfl)|(simp [*,errW_none,errW_some] <;> rfl),by repeat (first|(with_reducible first|exact HB.out|apply oA|apply pN|apply o1|refine bS ?_ Bc.out)|exact HB.out)⟩/-! ### impl_PagesGet: function 20 -/
def impl_PagesGet.f (k : Nat) (l0_0 : List ByteArray) (l0_1 : List Int) (a1 : Int) : Option (ByteArray × Bool) := (impl_PagesOk.f k l0_0 l0_1).bind fun t153 => (if t153 = true then ((impl_Pages_has.f l0_0 l0_1 a1).bind fun t154 => (if t154 = true then (if 0 ≤ a1 then (if a1 < (l0_0.length : Int) then (some (rdOf ByteArray.empty l0_0 a1, true)) else (none)) else (none)) else (some ((⟨#[]⟩ : ByteArray), false)))) else (some ((⟨#[]⟩ : ByteArray), false)))
theorem impl_PagesGet.mono : ∀ a0 a1 a2 k, LeO (impl_PagesGet.f k a0 a1 a2) (impl_PagesGet.f (k + 1) a0 a1 a2) := by
 intro a0 a1 a2 k
 unfold impl_PagesGet.f
 repeat' first
  |(with_reducible exact impl_PagesOk.mono _ _ _)
  |(with_reducible exact LeO.refl _)
  |(with_reducible exact LeO.none _)
  |(with_reducible refine LeO.ite ?_ ?_)
  |(with_reducible refine LeO.bind ?_ (fun _ => ?_))
  |exact impl_PagesOk.mono _ _ _
  |exact LeO.none _
  |refine LeO.ite ?_ ?_
  |refine LeO.bind ?_ (fun _ => ?_)
set_option maxHeartbeats 2000000 in
set_option maxRecDepth 100000 in
theorem impl_PagesGet.calls (k:Nat) (A0_0:Option Addr) (c0_0:Nat) (l0_0:List ByteArray) (A0_1:Option Addr) (c0_1:Nat) (l0_1:List Int) (a1:Int) (r1:ByteArray) (r2:Bool) (w:World) (hr0_0:Kd.C Kd.string w A0_0 l0_0.length l0_0) (hc0_0:l0_0.length≤c0_0) (hr0_1:Kd.C (Kd.int .i64) w A0_1 l0_1.length l0_1) (hc0_1:l0_1.length≤c0_1) (h:impl_PagesGet.f k l0_0 l0_1 a1=some (r1,r2)) :
  Calls Try.prog 20 #[.agg #[.slice A0_0 l0_0.length c0_0,.slice A0_1 l0_1.length c0_1],.int .i64 a1] w fun e w'=>e=.returned (.tuple #[.string r1,.bool r2])∧Below w.heap.size w w':=by
 have hu26:=Try.underlying26
 have HR0_0:=Am hr0_0
 have HC0_0:=Am hc0_0
 clear hr0_0 hc0_0
 have HR0_1:=Am hr0_1
 have HC0_1:=Am hc0_1
 clear hr0_1 hc0_1
 have HB:=Am (bJ w.heap.size w)
 have H:((impl_PagesOk.f k l0_0 l0_1).bind fun t153=>(if t153=true then ((impl_Pages_has.f l0_0 l0_1 a1).bind fun t154=>(if t154=true then (if 0≤a1 then (if a1<(l0_0.length:Int) then (some (rdOf ByteArray.empty l0_0 a1,true)) else (none)) else (none)) else (some ((⟨#[]⟩:ByteArray),false)))) else (some ((⟨#[]⟩:ByteArray),false))))=some (r1,r2):=h
 clear h
 replace H:=oC H
 obtain ⟨t153,A30,H⟩:=H
 replace H:(if t153=true then ((impl_Pages_has.f l0_0 l0_1 a1).bind fun t154=>(if t154=true then (if 0≤a1 then (if a1<(l0_0.length:Int) then (some (rdOf ByteArray.empty l0_0 a1,true)) else (none)) else (none)) else (some ((⟨#[]⟩:ByteArray),false)))) else (some ((⟨#[]⟩:ByteArray),false)))=some (r1,r2):=H
 have A3:=Am A30
 clear A30
 by_cases c4:t153=true
 rotate_left
 ·replace c4:=Bool.eq_false_iff.mpr c4
  subst c4
  have H1:(some ((⟨#[]⟩:ByteArray),false))=some (r1,r2):=by rw [if_neg (show ¬ (false=true) by decide)] at H;exact H
  clear H
  have H:=H1
  clear H1
  simp only [Option.some.injEq,Prod.mk.injEq] at H
  obtain ⟨rfl,rfl⟩:=H
  go_enter Try.func20,Try.ntmps20
  go_wp2_with (first|((with_reducible refine gD (N:=2) rfl ?_);refine bI ?hg (N:=2) ?hd (cs:=#[.slice A0_0 l0_0.length c0_0,.slice A0_1 l0_1.length c0_1]) (t:=26) ?hr ?_;(case hd=>rfl);(case hg=>rfl);(case hr=>first|(go_simp;done)|(go_simp;rfl));intro Bb hg w20 hbox hb;have n0_:=Am (bP (by repeat (first|(with_reducible first|exact HB.out|apply oA|apply pN|apply o1)|exact HB.out)) hb);have n1_:=Am (hbox);have n2_:=Am ((by rw [hg];exact (bZ (by repeat (first|(with_reducible first|exact HB.out|apply oA|apply pN|apply o1)|exact HB.out))):w.heap.size≤Bb));have n3_:=Am ((by rw [hg];exact (bZ (by repeat (first|(with_reducible first|exact HB.out|apply oA|apply pN|apply o1)|exact HB.out))):w.heap.size≤Bb));clear HB;revert n0_ n1_ n2_ n3_;intro HB Ba Bd Bc;clear hb hbox hg;have By:=cz0 Ba.out;have Bz:=cz1 Ba.out;have BA:=bF Ba.out 0;have BB:=bF Ba.out 1)|((with_reducible refine gC (f:=29) rfl ?_);refine goesL_ (some 7) rfl rfl Try.func29 (by kernel_rfl) rfl #[.agg #[.slice A0_0 l0_0.length c0_0,.slice A0_1 l0_1.length c0_1]] rfl (by (try simp only [lM,lC,lN]);first|done|rfl|(simp only [lD,lT];rfl)) ?_;(with_reducible refine (impl_PagesOk.calls k _ _ l0_0 _ _ l0_1 false _ ?side1 ?side2 ?side3 ?side4 A3.out).mono ?_);(case side1=>exact cL (cB HR0_0.out HB.out));(case side2=>exact HC0_0.out);(case side3=>exact cL (cB HR0_1.out HB.out));(case side4=>exact HC0_1.out);rintro e w22 ⟨rfl,hb⟩;refine ⟨_,rfl,?_⟩;have n0_:=Am (bX Ba.out hb);have n1_:=Am (bP (by repeat (first|(with_reducible first|exact HB.out|apply oA|apply pN|apply o1|refine bS ?_ Bc.out)|exact HB.out)) hb);clear Ba HB;revert n0_ n1_;intro Ba HB;(try clear hb);(try clear hb2);(try clear hk);(try clear hi)))
  go_ret2
  exact ⟨by first|rfl|(simp [errW_none,errW_some] <;> rfl)|(simp [*,errW_none,errW_some] <;> rfl),by repeat (first|(with_reducible first|exact HB.out|apply oA|apply pN|apply o1|refine bS ?_ Bc.out)|exact HB.out)⟩

 subst c4
 have H1:((impl_Pages_has.f l0_0 l0_1 a1).bind fun t154=>(if t154=true then (if 0≤a1 then (if a1<(l0_0.length:Int) then (some (rdOf ByteArray.empty l0_0 a1,true)) else (none)) else (none)) else (some ((⟨#[]⟩:ByteArray),false))))=some (r1,r2):=by rw [if_pos rfl] at H;exact H
 clear H
 have H:=H1
 clear H1
 replace H:=oC H
 obtain ⟨t154,A50,H⟩:=H
 replace H:(if t154=true then (if 0≤a1 then (if a1<(l0_0.length:Int) then (some (rdOf ByteArray.empty l0_0 a1,true)) else (none)) else (none)) else (some ((⟨#[]⟩:ByteArray),false)))=some (r1,r2):=H
 have A5:=Am A50
 clear A50
 by_cases c6:t154=true
 rotate_left
 ·replace c6:=Bool.eq_false_iff.mpr c6
  subst c6
  have H1:(some ((⟨#[]⟩:ByteArray),false))=some (r1,r2):=by rw [if_neg (show ¬ (false=true) by decide)] at H;exact H
  clear H
  have H:=H1
  clear H1
  simp only [Option.some.injEq,Prod.mk.injEq] at H
  obtain ⟨rfl,rfl⟩:=H
  go_enter Try.func20,Try.ntmps20
  go_wp2_with (first|((with_reducible refine gD (N:=2) rfl ?_);refine bI ?hg (N:=2) ?hd (cs:=#[.slice A0_0 l0_0.length c0_0,.slice A0_1 l0_1.length c0_1]) (t:=26) ?hr ?_;(case hd=>rfl);(case hg=>rfl);(case hr=>first|(go_simp;done)|(go_simp;rfl));intro Bb hg w15 hbox hb;have n0_:=Am (bP (by repeat (first|(with_reducible first|exact HB.out|apply oA|apply pN|apply o1)|exact HB.out)) hb);have n1_:=Am (hbox);have n2_:=Am ((by rw [hg];exact (bZ (by repeat (first|(with_reducible first|exact HB.out|apply oA|apply pN|apply o1)|exact HB.out))):w.heap.size≤Bb));have n3_:=Am ((by rw [hg];exact (bZ (by repeat (first|(with_reducible first|exact HB.out|apply oA|apply pN|apply o1)|exact HB.out))):w.heap.size≤Bb));clear HB;revert n0_ n1_ n2_ n3_;intro HB Ba Bd Bc;clear hb hbox hg;have Bq:=cz0 Ba.out;have Br:=cz1 Ba.out;have Bs:=bF Ba.out 0;have Bt:=bF Ba.out 1)|((with_reducible refine gC (f:=29) rfl ?_);refine goesL_ (some 7) rfl rfl Try.func29 (by kernel_rfl) rfl #[.agg #[.slice A0_0 l0_0.length c0_0,.slice A0_1 l0_1.length c0_1]] rfl (by (try simp only [lM,lC,lN]);first|done|rfl|(simp only [lD,lT];rfl)) ?_;(with_reducible refine (impl_PagesOk.calls k _ _ l0_0 _ _ l0_1 true _ ?side1 ?side2 ?side3 ?side4 A3.out).mono ?_);(case side1=>exact cL (cB HR0_0.out HB.out));(case side2=>exact HC0_0.out);(case side3=>exact cL (cB HR0_1.out HB.out));(case side4=>exact HC0_1.out);rintro e w17 ⟨rfl,hb⟩;refine ⟨_,rfl,?_⟩;have n0_:=Am (bX Ba.out hb);have n1_:=Am (bP (by repeat (first|(with_reducible first|exact HB.out|apply oA|apply pN|apply o1|refine bS ?_ Bc.out)|exact HB.out)) hb);clear Ba HB;revert n0_ n1_;intro Ba HB;(try clear hb);(try clear hb2);(try clear hk);(try clear hi);have Bu:=cz0 Ba.out;have Bv:=cz1 Ba.out;have Bw:=bF Ba.out 0;have Bx:=bF Ba.out 1)|(go_at_call 55;(with_reducible refine (impl_Pages_has.calls _ _ l0_0 _ _ l0_1 a1 false _ ?side1 ?side2 ?side3 ?side4 A5.out).mono ?_);(case side1=>exact cL (cB HR0_0.out HB.out));(case side2=>exact HC0_0.out);(case side3=>exact cL (cB HR0_1.out HB.out));(case side4=>exact HC0_1.out);rintro e w19 ⟨rfl,hb⟩;have n0_:=Am (bX Ba.out hb);have n1_:=Am (bP (by repeat (first|(with_reducible first|exact HB.out|apply oA|apply pN|apply o1|refine bS ?_ Bc.out)|exact HB.out)) hb);clear Ba HB;revert n0_ n1_;intro Ba HB;(try clear hb);(try clear hb2);(try clear hk);(try clear hi)))
  go_ret2
  exact ⟨by first|rfl|(simp [errW_none,errW_some] <;> rfl)|(simp [*,errW_none,errW_some] <;> rfl),by repeat (first|(with_reducible first|exact HB.out|apply oA|apply pN|apply o1|refine bS ?_ Bc.out)|exact HB.out)⟩
 subst c6
 have H1:(if 0≤a1 then (if a1<(l0_0.length:Int) then (some (rdOf ByteArray.empty l0_0 a1,true)) else (none)) else (none))=some (r1,r2):=by rw [if_pos rfl] at H;exact H
 clear H
 have H:=H1
 clear H1
 by_cases c7:0≤a1
 rotate_left
 ·rw [if_neg c7] at H
  exact absurd H (by simp)
 rw [if_pos c7] at H
 have c7b0:decide (0≤a1)=true:=dT c7
 clear c7
 by_cases c8:a1<(l0_0.length:Int)
 rotate_left
 ·rw [if_neg c8] at H
  exact absurd H (by simp)
 rw [if_pos c8] at H
 have c8b0:decide (a1<(l0_0.length:Int))=true:=dT c8
 clear c8
 simp only [Option.some.injEq,Prod.mk.injEq] at H
 obtain ⟨rfl,rfl⟩:=H
 go_enter Try.func20,Try.ntmps20
 go_wp2_with (first|((with_reducible refine gD (N:=2) rfl ?_);refine bI ?hg (N:=2) ?hd (cs:=#[.slice A0_0 l0_0.length c0_0,.slice A0_1 l0_1.length c0_1]) (t:=26) ?hr ?_;(case hd=>rfl);(case hg=>rfl);(case hr=>first|(go_simp;done)|(go_simp;rfl));intro Bb hg w9 hbox hb;have n0_:=Am (bP (by repeat (first|(with_reducible first|exact HB.out|apply oA|apply pN|apply o1)|exact HB.out)) hb);have n1_:=Am (hbox);have n2_:=Am ((by rw [hg];exact (bZ (by repeat (first|(with_reducible first|exact HB.out|apply oA|apply pN|apply o1)|exact HB.out))):w.heap.size≤Bb));have n3_:=Am ((by rw [hg];exact (bZ (by repeat (first|(with_reducible first|exact HB.out|apply oA|apply pN|apply o1)|exact HB.out))):w.heap.size≤Bb));clear HB;revert n0_ n1_ n2_ n3_;intro HB Ba Bd Bc;clear hb hbox hg;have Be:=cz0 Ba.out;have Bf:=cz1 Ba.out;have Bg:=bF Ba.out 0;have Bh:=bF Ba.out 1)|((with_reducible refine gC (f:=29) rfl ?_);refine goesL_ (some 7) rfl rfl Try.func29 (by kernel_rfl) rfl #[.agg #[.slice A0_0 l0_0.length c0_0,.slice A0_1 l0_1.length c0_1]] rfl (by (try simp only [lM,lC,lN]);first|done|rfl|(simp only [lD,lT];rfl)) ?_;(with_reducible refine (impl_PagesOk.calls k _ _ l0_0 _ _ l0_1 true _ ?side1 ?side2 ?side3 ?side4 A3.out).mono ?_);(case side1=>exact cL (cB HR0_0.out HB.out));(case side2=>exact HC0_0.out);(case side3=>exact cL (cB HR0_1.out HB.out));(case side4=>exact HC0_1.out);rintro e w11 ⟨rfl,hb⟩;refine ⟨_,rfl,?_⟩;have n0_:=Am (bX Ba.out hb);have n1_:=Am (bP (by repeat (first|(with_reducible first|exact HB.out|apply oA|apply pN|apply o1|refine bS ?_ Bc.out)|exact HB.out)) hb);clear Ba HB;revert n0_ n1_;intro Ba HB;(try clear hb);(try clear hb2);(try clear hk);(try clear hi);have Bi:=cz0 Ba.out;have Bj:=cz1 Ba.out;have Bk:=bF Ba.out 0;have Bl:=bF Ba.out 1)|(go_at_call 55;(with_reducible refine (impl_Pages_has.calls _ _ l0_0 _ _ l0_1 a1 true _ ?side1 ?side2 ?side3 ?side4 A5.out).mono ?_);(case side1=>exact cL (cB HR0_0.out HB.out));(case side2=>exact HC0_0.out);(case side3=>exact cL (cB HR0_1.out HB.out));(case side4=>exact HC0_1.out);rintro e w13 ⟨rfl,hb⟩;have n0_:=Am (bX Ba.out hb);have n1_:=Am (bP (by repeat (first|(with_reducible first|exact HB.out|apply oA|apply pN|apply o1|refine bS ?_ Bc.out)|exact HB.out)) hb);clear Ba HB;revert n0_ n1_;intro Ba HB;(try clear hb);(try clear hb2);(try clear hk);(try clear hi);have Bm:=cz0 Ba.out;have Bn:=cz1 Ba.out;have Bo:=bF Ba.out 0;have Bp:=bF Ba.out 1;have p155:0≤(a1:Int):=oE (by first|(with_reducible assumption)|assumption);have q155:a1<(l0_0.length:Int):=oE (by first|(with_reducible assumption)|assumption);obtain ⟨ad155,e155,hx155_0⟩:=Kd.at_string HR0_0.out a1 p155 q155;cases e155;replace hx155_0:=(HB.out.cell (World.block_lt_of_cell? w _ hx155_0)).trans hx155_0;replace p155:=eq_true p155;replace q155:=eq_true q155))
 go_ret2
 exact ⟨by first|rfl|(simp [errW_none,errW_some] <;> rfl)|(simp [*,errW_none,errW_some] <;> rfl),by repeat (first|(with_reducible first|exact HB.out|apply oA|apply pN|apply o1|refine bS ?_ Bc.out)|exact HB.out)⟩
-- NOT PRINTED: function 56 (impl_Pages_give)

/-! ### impl_PagesGive: function 24 -/
def impl_PagesGive.j0 : Nat → Int → Bool → List ByteArray → List Int → Option (List ByteArray × List Int × Bool)
|0, _, _, _, _ => none
|k + 1, x1, x15, x158000, x158001 => if x15 = true then (some (([] : List ByteArray), ([] : List Int), false)) else ((impl_Pages_clone.f x158000 x158001).bind fun bt161 => (if 0 ≤ x1 then (if x1 < (bt161.2.length : Int) then ((some (bt161.2.set (x1 : Int).toNat (wrap64 ((rd bt161.2 x1) - 1)) : List Int)).bind fun y169 => (if (rd y169 x1) = 0 then (if x1 < (bt161.1.length : Int) then (some ((bt161.1.set (x1 : Int).toNat (⟨#[]⟩ : ByteArray)), y169, true)) else (none)) else (some (bt161.1, y169, true)))) else (none)) else (none)))
def impl_PagesGive.f (k : Nat) (l0_0 : List ByteArray) (l0_1 : List Int) (a1 : Int) : Option (List ByteArray × List Int × Bool) := (impl_PagesOk.f k l0_0 l0_1).bind fun t159 => (if t159 = true then ((impl_Pages_has.f l0_0 l0_1 a1).bind fun t160 => (impl_PagesGive.j0 k a1 (!t160) l0_0 l0_1)) else (impl_PagesGive.j0 k a1 true l0_0 l0_1))
theorem impl_PagesGive.mono_l : ∀ k, (∀ y0 y1 y2 y3, LeO (impl_PagesGive.j0 k y0 y1 y2 y3) (impl_PagesGive.j0 (k + 1) y0 y1 y2 y3))
|0 => fun _ _ _ _ r h => by simp [impl_PagesGive.j0] at h
|k + 1 => by
  have ih0 := impl_PagesGive.mono_l k
  ·intro y0 y1 y2 y3
   unfold impl_PagesGive.j0
   repeat' first
  |(with_reducible exact ih0 _ _ _ _)
  |(with_reducible exact impl_PagesOk.mono _ _ _)
  |(with_reducible exact LeO.refl _)
  |(with_reducible exact LeO.none _)
  |(with_reducible refine LeO.ite ?_ ?_)
  |(with_reducible refine LeO.bind ?_ (fun _ => ?_))
  |exact ih0 _ _ _ _
  |exact impl_PagesOk.mono _ _ _
  |exact LeO.none _
  |refine LeO.ite ?_ ?_
  |refine LeO.bind ?_ (fun _ => ?_)
theorem impl_PagesGive.mono : ∀ a0 a1 a2 k, LeO (impl_PagesGive.f k a0 a1 a2) (impl_PagesGive.f (k + 1) a0 a1 a2) := by
 intro a0 a1 a2 k
 have ih0 := impl_PagesGive.mono_l k
 unfold impl_PagesGive.f
 repeat' first
  |(with_reducible exact ih0 _ _ _ _)
  |(with_reducible exact impl_PagesOk.mono _ _ _)
  |(with_reducible exact LeO.refl _)
  |(with_reducible exact LeO.none _)
  |(with_reducible refine LeO.ite ?_ ?_)
  |(with_reducible refine LeO.bind ?_ (fun _ => ?_))
  |exact ih0 _ _ _ _
  |exact impl_PagesOk.mono _ _ _
  |exact LeO.none _
  |refine LeO.ite ?_ ?_
  |refine LeO.bind ?_ (fun _ => ?_)
set_option maxHeartbeats 2000000 in
set_option maxRecDepth 100000 in
theorem impl_PagesGive.calls (k:Nat) (A0_0:Option Addr) (c0_0:Nat) (l0_0:List ByteArray) (A0_1:Option Addr) (c0_1:Nat) (l0_1:List Int) (a1:Int) (r1:List ByteArray) (r2:List Int) (r3:Bool) (w:World) (hr0_0:Kd.C Kd.string w A0_0 l0_0.length l0_0) (hc0_0:l0_0.length≤c0_0) (hr0_1:Kd.C (Kd.int .i64) w A0_1 l0_1.length l0_1) (hc0_1:l0_1.length≤c0_1) (h:impl_PagesGive.f k l0_0 l0_1 a1=some (r1,r2,r3)) :
  Calls Try.prog 24 #[.agg #[.slice A0_0 l0_0.length c0_0,.slice A0_1 l0_1.length c0_1],.int .i64 a1] w fun e w'=>∃ v0_ v1_:Value,e=.returned (.tuple #[.agg #[v0_,v1_],.bool r3])∧Kd.R Kd.string 9 w' w.heap.size (fun _=>True) v0_ r1∧Kd.R (Kd.int .i64) 3 w' w.heap.size (fun _=>True) v1_ r2∧Below w.heap.size w w':=by
 have hu26:=Try.underlying26
 have HR0_0:=Am hr0_0
 have HC0_0:=Am hc0_0
 clear hr0_0 hc0_0
 have HR0_1:=Am hr0_1
 have HC0_1:=Am hc0_1
 clear hr0_1 hc0_1
 have HB:=Am (bJ w.heap.size w)
 have H:((impl_PagesOk.f k l0_0 l0_1).bind fun t159=>(if t159=true then ((impl_Pages_has.f l0_0 l0_1 a1).bind fun t160=>(impl_PagesGive.j0 k a1 (!t160) l0_0 l0_1)) else (impl_PagesGive.j0 k a1 true l0_0 l0_1)))=some (r1,r2,r3):=h
 clear h
 have HC3:=Am H
 clear H
 have hres_:∀ ts_ w_,Sem.run Try.prog (results Try.f56 ts_) w_=.ok (.tuple #[]) w_:=by intro ts_ w_;simp [results,Try.results56,go_sem]
 go_enter Try.func24,Try.ntmps24
 go_upto_region 1 with (first|((with_reducible refine gD (N:=2) rfl ?_);refine bI ?hg (N:=2) ?hd (cs:=#[.slice A0_0 l0_0.length c0_0,.slice A0_1 l0_1.length c0_1]) (t:=26) ?hr ?_;(case hd=>rfl);(case hg=>rfl);(case hr=>first|(go_simp;done)|(go_simp;rfl));intro Bg hg w4 hbox hb;have n0_:=Am (bP (by repeat (first|(with_reducible first|exact HB.out|apply oA|apply pN|apply o1)|exact HB.out)) hb);have n1_:=Am (hbox);have n2_:=Am ((by rw [hg];exact (bZ (by repeat (first|(with_reducible first|exact HB.out|apply oA|apply pN|apply o1)|exact HB.out))):w.heap.size≤Bg));have n3_:=Am ((by rw [hg];exact (bZ (by repeat (first|(with_reducible first|exact HB.out|apply oA|apply pN|apply o1)|exact HB.out))):w.heap.size≤Bg));clear HB;revert n0_ n1_ n2_ n3_;intro HB Ba Ds Bi;clear hb hbox hg)|((with_reducible refine gD (N:=4) rfl ?_);refine bI ?hg (N:=4) ?hd (cs:=#[.slice none 0 0,.slice none 0 0]) (t:=26) ?hr ?_;(case hd=>rfl);(case hg=>rfl);(case hr=>first|(go_simp;done)|(go_simp;rfl));intro Bf hg w5 hbox hb;have n0_:=Am (bX Ba.out hb);have n1_:=Am (bP (by repeat (first|(with_reducible first|exact HB.out|apply oA|apply pN|apply o1|refine bS ?_ Bi.out)|exact HB.out)) hb);have n2_:=Am (hbox);have n3_:=Am ((by rw [hg];exact (bZ (by repeat (first|(with_reducible first|exact HB.out|apply oA|apply pN|apply o1|refine bS ?_ Bi.out)|exact HB.out))):w.heap.size≤Bf));have n4_:=Am ((by rw [hg];exact (bZ (by repeat (first|(with_reducible first|exact HB.out|apply oA|apply pN|apply o1|refine bS ?_ Bi.out)|exact HB.out))):w.heap.size≤Bf));have n5_:=Am ((nL Ba.out hg));have n6_:=Am ((nG Ba.out hg));clear Ba HB;revert n0_ n1_ n2_ n3_ n4_ n5_ n6_;intro Ba HB Bb Dt Bj Bk Bl;clear hb hbox hg)|go_in)
 (try (refine bodyPost_end (v:=.tuple #[]) (hres_ _ _) rfl ?_;go_wp2))
 (try simp only [Act.put,lA,lZ,lS])
 go_cut [15] (fun v15 wc=>∃ (kq:Nat) (x15_2:Bool),v15=.bool x15_2∧Aside0 (impl_PagesGive.j0 kq a1 x15_2 l0_0 l0_1=some (r1,r2,r3))∧Aside0 (kq≤k)∧Aside0 (wc.heap[Bg]?=some (.cells #[(.slice A0_0 l0_0.length c0_0),(.slice A0_1 l0_1.length c0_1)] 26 (0,0)))∧Aside0 (wc.heap[Bf]?=some (.cells #[(.slice none 0 0),(.slice none 0 0)] 26 (0,0)))∧Aside0 (Below w.heap.size w wc))
 case first =>
  have H:=HC3.out
  clear HC3
  replace H:=oC H
  obtain ⟨t159,A60,H⟩:=H
  replace H:(if t159=true then ((impl_Pages_has.f l0_0 l0_1 a1).bind fun t160=>(impl_PagesGive.j0 k a1 (!t160) l0_0 l0_1)) else (impl_PagesGive.j0 k a1 true l0_0 l0_1))=some (r1,r2,r3):=H
  have A6:=Am A60
  clear A60
  by_cases c7:t159=true
  rotate_left
  ·replace c7:=Bool.eq_false_iff.mpr c7
   subst c7
   have H1:(impl_PagesGive.j0 k a1 true l0_0 l0_1)=some (r1,r2,r3):=by rw [if_neg (show ¬ (false=true) by decide)] at H;exact H
   clear H
   have H:=H1
   clear H1
   have H':=Am H
   clear H
   have Du:=Bk.out
   have Dv:=Bl.out
   have BA:=cz0 Ba.out
   have BB:=cz1 Ba.out
   have BC:=bF Ba.out 0
   have BD:=bF Ba.out 1
   go_wp2_with (first|((with_reducible refine gC (f:=29) rfl ?_);refine goesL_ (some 8) rfl rfl Try.func29 (by kernel_rfl) rfl #[.agg #[.slice A0_0 l0_0.length c0_0,.slice A0_1 l0_1.length c0_1]] rfl (by (try simp only [lM,lC,lN]);first|done|rfl|(simp only [lD,lT];rfl)) ?_;(with_reducible refine (impl_PagesOk.calls k _ _ l0_0 _ _ l0_1 false _ ?side1 ?side2 ?side3 ?side4 A6.out).mono ?_);(case side1=>exact cL (cB HR0_0.out HB.out));(case side2=>exact HC0_0.out);(case side3=>exact cL (cB HR0_1.out HB.out));(case side4=>exact HC0_1.out);rintro e w16 ⟨rfl,hb⟩;refine ⟨_,rfl,?_⟩;have n0_:=Am (bX Ba.out hb);have n1_:=Am (bX Bb.out hb);have n2_:=Am (bP (by repeat (first|(with_reducible first|exact HB.out|apply oA|apply pN|apply o1|refine bS ?_ Bi.out|refine bS ?_ Bj.out)|exact HB.out)) hb);clear Ba Bb HB;revert n0_ n1_ n2_;intro Ba Bb HB;(try clear hb);(try clear hb2);(try clear hk);(try clear hi))|go_in)
   (try (refine bodyPost_end (v:=.tuple #[]) (hres_ _ _) rfl ?_;go_wp2))
   go_meet
   case rel=>exact ⟨_,(true),(by first|rfl|(simp;done)|(simp [*];done)),H',⟨by first|omega|exact nR _⟩,⟨by (with_reducible repeat (first|refine bN ?_ _|refine bD ?_|refine bA ?_ _));exact Ba.out⟩,⟨by (with_reducible repeat (first|refine bN ?_ _|refine bD ?_|refine bA ?_ _));exact Bb.out⟩,⟨by repeat (first|(with_reducible first|exact HB.out|apply oA|apply pN|apply o1|refine bS ?_ Bi.out|refine bS ?_ Bj.out)|exact HB.out)⟩⟩
  subst c7
  have H1:((impl_Pages_has.f l0_0 l0_1 a1).bind fun t160=>(impl_PagesGive.j0 k a1 (!t160) l0_0 l0_1))=some (r1,r2,r3):=by rw [if_pos rfl] at H;exact H
  clear H
  have H:=H1
  clear H1
  replace H:=oC H
  obtain ⟨t160,A80,H⟩:=H
  replace H:(impl_PagesGive.j0 k a1 (!t160) l0_0 l0_1)=some (r1,r2,r3):=H
  have A8:=Am A80
  clear A80
  have H':=Am H
  clear H
  have DK:=Bk.out
  have DL:=Bl.out
  have Bs:=cz0 Ba.out
  have Bt:=cz1 Ba.out
  have Bu:=bF Ba.out 0
  have Bv:=bF Ba.out 1
  go_wp2_with (first|((with_reducible refine gC (f:=29) rfl ?_);refine goesL_ (some 8) rfl rfl Try.func29 (by kernel_rfl) rfl #[.agg #[.slice A0_0 l0_0.length c0_0,.slice A0_1 l0_1.length c0_1]] rfl (by (try simp only [lM,lC,lN]);first|done|rfl|(simp only [lD,lT];rfl)) ?_;(with_reducible refine (impl_PagesOk.calls k _ _ l0_0 _ _ l0_1 true _ ?side1 ?side2 ?side3 ?side4 A6.out).mono ?_);(case side1=>exact cL (cB HR0_0.out HB.out));(case side2=>exact HC0_0.out);(case side3=>exact cL (cB HR0_1.out HB.out));(case side4=>exact HC0_1.out);rintro e w11 ⟨rfl,hb⟩;refine ⟨_,rfl,?_⟩;have n0_:=Am (bX Ba.out hb);have n1_:=Am (bX Bb.out hb);have n2_:=Am (bP (by repeat (first|(with_reducible first|exact HB.out|apply oA|apply pN|apply o1|refine bS ?_ Bi.out|refine bS ?_ Bj.out)|exact HB.out)) hb);clear Ba Bb HB;revert n0_ n1_ n2_;intro Ba Bb HB;(try clear hb);(try clear hb2);(try clear hk);(try clear hi);have Bw:=cz0 Ba.out;have Bx:=cz1 Ba.out;have By:=bF Ba.out 0;have Bz:=bF Ba.out 1)|(go_at_call 55;(with_reducible refine (impl_Pages_has.calls _ _ l0_0 _ _ l0_1 a1 t160 _ ?side1 ?side2 ?side3 ?side4 A8.out).mono ?_);(case side1=>exact cL (cB HR0_0.out HB.out));(case side2=>exact HC0_0.out);(case side3=>exact cL (cB HR0_1.out HB.out));(case side4=>exact HC0_1.out);rintro e w13 ⟨rfl,hb⟩;have n0_:=Am (bX Ba.out hb);have n1_:=Am (bX Bb.out hb);have n2_:=Am (bP (by repeat (first|(with_reducible first|exact HB.out|apply oA|apply pN|apply o1|refine bS ?_ Bi.out|refine bS ?_ Bj.out)|exact HB.out)) hb);clear Ba Bb HB;revert n0_ n1_ n2_;intro Ba Bb HB;(try clear hb);(try clear hb2);(try clear hk);(try clear hi))|go_in)
  (try (refine bodyPost_end (v:=.tuple #[]) (hres_ _ _) rfl ?_;go_wp2))
  go_meet
  case rel=>exact ⟨_,(!t160),(by first|rfl|(simp;done)|(simp [*];done)),H',⟨by first|omega|exact nR _⟩,⟨by (with_reducible repeat (first|refine bN ?_ _|refine bD ?_|refine bA ?_ _));exact Ba.out⟩,⟨by (with_reducible repeat (first|refine bN ?_ _|refine bD ?_|refine bA ?_ _));exact Bb.out⟩,⟨by repeat (first|(with_reducible first|exact HB.out|apply oA|apply pN|apply o1|refine bS ?_ Bi.out|refine bS ?_ Bj.out)|exact HB.out)⟩⟩
 case rest =>
  clear HC3
  try clear c1
  try clear c2
  try clear p2
  try clear c7
  try clear c9
  try clear c14
  try clear Bs
  try clear Bt
  try clear Bw
  try clear Bx
  try clear BA
  try clear BB
  try clear Bu
  try clear Bv
  try clear By
  try clear Bz
  try clear BC
  try clear BD
  obtain ⟨kq,x15_2,rfl,HA,DM,Ba,Bb,HB⟩:=hcut
  cases kq with
 |zero=>exact absurd HA.out (by simp [impl_PagesGive.j0])
 |succ kj2 =>
   have H:=HA.out
   clear HA
   simp only [impl_PagesGive.j0] at H
   by_cases c17:x15_2=true
   ·subst c17
    have H1:(some (([]:List ByteArray),([]:List Int),false))=some (r1,r2,r3):=by rw [if_pos rfl] at H;exact H
    clear H
    have H:=H1
    clear H1
    simp only [Option.some.injEq,Prod.mk.injEq] at H
    obtain ⟨rfl,rfl,rfl⟩:=H
    have Dw:=Bl.out
    have Dx:=Bk.out
    have BG:=cz0 Bb.out
    have BH:=cz1 Bb.out
    have BI:=bF Bb.out 0
    have BJ:=bF Bb.out 1
    go_wp2
    refine bodyPost_ret (results_ct rfl _ _ Bf 26 #[.slice none 0 0,.slice none 0 0] (0,0) _ rfl (by (with_reducible repeat (first|refine bN ?_ _|refine bD ?_|refine bA ?_ _));refine bT (cs:=#[.slice none 0 0,.slice none 0 0]) ?_ 1 _ rfl;(with_reducible repeat (first|refine bN ?_ _|refine bD ?_|refine bA ?_ _));refine bT (cs:=#[.slice none 0 0,.slice none 0 0]) ?_ 0 _ rfl;(with_reducible repeat (first|refine bN ?_ _|refine bD ?_|refine bA ?_ _));exact Bb.out) Try.underlying26 rfl (by kernel_rfl)) rfl ?_
    exact ⟨_,_,by first|rfl|(simp [errW_none,errW_some] <;> rfl)|(simp [*,errW_none,errW_some] <;> rfl),by first|exact Kd.R_nil _ _ _ _ _|exact Kd.N_nil _ _ _ _ _|exact Kd.V_nil _ _ _ _ _|exact Kd.Q_nil _ _ _ _ _|exact Kd.S_nil _ _ _ _ _,by first|exact Kd.R_nil _ _ _ _ _|exact Kd.N_nil _ _ _ _ _|exact Kd.V_nil _ _ _ _ _|exact Kd.Q_nil _ _ _ _ _|exact Kd.S_nil _ _ _ _ _,by repeat (first|(with_reducible first|exact HB.out|apply oA|apply pN|apply o1|refine bS ?_ Bi.out|refine bS ?_ Bj.out)|exact HB.out)⟩
   replace c17:=Bool.eq_false_iff.mpr c17
   subst c17
   have H1:((impl_Pages_clone.f l0_0 l0_1).bind fun bt161=>(if 0≤a1 then (if a1<(bt161.2.length:Int) then ((some (bt161.2.set (a1:Int).toNat (wrap64 ((rd bt161.2 a1) - 1)):List Int)).bind fun y169=>(if (rd y169 a1)=0 then (if a1<(bt161.1.length:Int) then (some ((bt161.1.set (a1:Int).toNat (⟨#[]⟩:ByteArray)),y169,true)) else (none)) else (some (bt161.1,y169,true)))) else (none)) else (none)))=some (r1,r2,r3):=by rw [if_neg (show ¬ (false=true) by decide)] at H;exact H
   clear H
   have H:=H1
   clear H1
   replace H:=oC H
   obtain ⟨⟨t161,t164⟩,A200,H⟩:=H
   replace H:(if 0≤a1 then (if a1<(t164.length:Int) then ((some (t164.set (a1:Int).toNat (wrap64 ((rd t164 a1) - 1)):List Int)).bind fun y169=>(if (rd y169 a1)=0 then (if a1<(t161.length:Int) then (some ((t161.set (a1:Int).toNat (⟨#[]⟩:ByteArray)),y169,true)) else (none)) else (some (t161,y169,true)))) else (none)) else (none))=some (r1,r2,r3):=H
   have A20:=Am A200
   clear A200
   by_cases c21:0≤a1
   rotate_left
   ·rw [if_neg c21] at H
    exact absurd H (by simp)

   rw [if_pos c21] at H
   have c21b0:decide (0≤a1)=true:=dT c21
   clear c21
   by_cases c22:a1<(t164.length:Int)
   rotate_left
   ·rw [if_neg c22] at H
    exact absurd H (by simp)
   rw [if_pos c22] at H
   have c22b0:decide (a1<(t164.length:Int))=true:=dT c22
   clear c22
   obtain ⟨y169,hy169⟩:∃ y_:List Int,y_=(t164.set (a1:Int).toNat (wrap64 ((rd t164 a1) - 1))):=⟨_,rfl⟩
   replace H:(if (rd y169 a1)=0 then (if a1<(t161.length:Int) then (some ((t161.set (a1:Int).toNat (⟨#[]⟩:ByteArray)),y169,true)) else (none)) else (some (t161,y169,true)))=some (r1,r2,r3):=by first|(rw [hy169];with_reducible exact H)|(have H2_:=(Option.bind_some _ _).symm.trans H;rw [hy169];with_reducible exact H2_)|(have H2_:=(Option.bind_some _ _).symm.trans H;with_reducible exact H2_)|with_reducible exact H|(rw [hy169];exact H)|exact H
   have Ny169:=Am hy169
   clear hy169
   by_cases c24:(rd y169 a1)=0
   rotate_left
   ·rw [if_neg c24] at H
    have c24b0:((rd y169 a1) == 0)=false:=beq_eq_false_iff_ne.mpr c24
    have c24b1:((rd y169 a1) != 0)=true:=bne_iff_ne.mpr c24
    simp only [Option.some.injEq,Prod.mk.injEq] at H
    obtain ⟨rfl,rfl,rfl⟩:=H
    have DE:=Bk.out
    have DF:=Bl.out
    have B8:=cz0 Ba.out
    have B9:=cz1 Ba.out
    have Da:=bF Ba.out 0
    have Db:=bF Ba.out 1
    go_wp2_with (first|((with_reducible refine gC (f:=45) rfl ?_);refine goesL_ (some 18) rfl rfl Try.func45 (by kernel_rfl) rfl #[.agg #[.slice A0_0 l0_0.length c0_0,.slice A0_1 l0_1.length c0_1]] rfl (by (try simp only [lM,lC,lN]);first|done|rfl|(simp only [lD,lT];rfl)) ?_;(with_reducible refine (impl_Pages_clone.calls _ _ l0_0 _ _ l0_1 t161 t164 _ ?side1 ?side2 ?side3 ?side4 A20.out).mono ?_);(case side1=>exact cL (cB HR0_0.out HB.out));(case side2=>exact HC0_0.out);(case side3=>exact cL (cB HR0_1.out HB.out));(case side4=>exact HC0_1.out);rintro e w47 ⟨v162,v165,rfl,ho0,ho1,hb⟩;refine ⟨_,rfl,?_⟩;have n0_:=Am (rW ho0 (bZ (by repeat (first|(with_reducible first|exact HB.out|apply oA|apply pN|apply o1|refine bS ?_ Bi.out|refine bS ?_ Bj.out)|exact HB.out))));have n1_:=Am (rW ho1 (bZ (by repeat (first|(with_reducible first|exact HB.out|apply oA|apply pN|apply o1|refine bS ?_ Bi.out|refine bS ?_ Bj.out)|exact HB.out))));have n2_:=Am (bX Ba.out hb);have n3_:=Am (bX Bb.out hb);have n4_:=Am (bP (by repeat (first|(with_reducible first|exact HB.out|apply oA|apply pN|apply o1|refine bS ?_ Bi.out|refine bS ?_ Bj.out)|exact HB.out)) hb);clear Ba Bb HB;revert n0_ n1_ n2_ n3_ n4_;intro Bh Bd Ba Bb HB;(try clear hb);(try clear hb2);(try clear hk);(try clear hi);(try clear ho0);(try clear ho1))|((with_reducible refine gD (N:=6) rfl ?_);refine bI ?hg (N:=6) ?hd (cs:=#[.slice none 0 0,.slice none 0 0]) (t:=26) ?hr ?_;(case hd=>rfl);(case hg=>rfl);(case hr=>first|(go_simp;done)|(go_simp;rfl));intro Be hg w48 hbox hb;have n0_:=Am (rB (rL Bh.out) hb);have n1_:=Am (rB (rL Bd.out) hb);have n2_:=Am (bX Ba.out hb);have n3_:=Am (bX Bb.out hb);have n4_:=Am (bP (by repeat (first|(with_reducible first|exact HB.out|apply oA|apply pN|apply o1|refine bS ?_ Bi.out|refine bS ?_ Bj.out)|exact HB.out)) hb);have n5_:=Am (hbox);have n6_:=Am ((by rw [hg];exact (bZ (by repeat (first|(with_reducible first|exact HB.out|apply oA|apply pN|apply o1|refine bS ?_ Bi.out|refine bS ?_ Bj.out)|exact HB.out))):w.heap.size≤Be));have n7_:=Am ((by rw [hg];exact (bZ (by repeat (first|(with_reducible first|exact HB.out|apply oA|apply pN|apply o1|refine bS ?_ Bi.out|refine bS ?_ Bj.out)|exact HB.out))):w.heap.size≤Be));have n8_:=Am ((nL Ba.out hg));have n9_:=Am ((nG Ba.out hg));have n10_:=Am ((nL Bb.out hg));have n11_:=Am ((nG Bb.out hg));clear Bh Bd Ba Bb HB;revert n0_ n1_ n2_ n3_ n4_ n5_ n6_ n7_ n8_ n9_ n10_ n11_;intro Bh Bd Ba Bb HB Bc BF Bq Bm Bo Bn Bp;clear hb hbox hg;obtain ⟨Ao49,co49,eo49⟩:=rC Bh.out;subst eo49;have DG:=Bo.out;have DH:=Bm.out;have DI:=Bp.out;have DJ:=Bn.out;have Dc:=cz0 Bc.out;have Dd:=cz1 Bc.out;have De:=bF Bc.out 0;have Df:=bF Bc.out 1;obtain ⟨Ao53,co53,eo53⟩:=rC Bd.out;subst eo53)|((with_reducible refine gS (t:=26) (p:=6) rfl ?_);refine sE (t:=26) (p:=6) (v:=?vo_w54) (w1:=((w48.setCell ⟨Be,0,none⟩ (.slice Ao49 t161.length co49)).setCell ⟨Be,1,none⟩ (.slice Ao53 t164.length co53))) ?hg ?ho ?hn ?hr ?_;(case ho=>rfl);(case hg=>rfl);(case hn=>rfl);(case hr=>first|(go_simp;done)|(go_simp;rfl));intro w54 hw;have n0_:Aside0 (Kd.R Kd.string 9 w54 w.heap.size (fun _=>True) (.slice Ao49 t161.length co49) t161):=⟨(by rw [hw];exact (by (with_reducible repeat (first|apply rA|apply rN|apply rD));exact rM (rF (p:=⟨Be,1,none⟩) (rF (p:=⟨Be,0,none⟩) (rT Bh.out Bc.out (by decide)) (fun _ hk=>hk.2) (.slice Ao49 t161.length co49)) (fun _ hk=>hk.2) (.slice Ao53 t164.length co53)) (fun _ hk=>trivial)))⟩;have n1_:Aside0 (Kd.R (Kd.int .i64) 3 w54 w.heap.size (fun _=>True) (.slice Ao53 t164.length co53) t164):=⟨(by rw [hw];exact (by (with_reducible repeat (first|apply rA|apply rN|apply rD));exact rM (rF (p:=⟨Be,1,none⟩) (rF (p:=⟨Be,0,none⟩) (rT Bd.out Bc.out (by decide)) (fun _ hk=>hk.2) (.slice Ao49 t161.length co49)) (fun _ hk=>hk.2) (.slice Ao53 t164.length co53)) (fun _ hk=>trivial)))⟩;have n2_:Aside0 (w54.heap[Bg]?=some (.cells #[.slice A0_0 l0_0.length c0_0,.slice A0_1 l0_1.length c0_1] 26 (0,0))):=⟨(by rw [hw];exact (by (with_reducible repeat (first|refine bN ?_ _|refine bD ?_|refine bA ?_ _|refine bE ?_ Bm.out _));exact Ba.out))⟩;have n3_:Aside0 (w54.heap[Bf]?=some (.cells #[.slice none 0 0,.slice none 0 0] 26 (0,0))):=⟨(by rw [hw];exact (by (with_reducible repeat (first|refine bN ?_ _|refine bD ?_|refine bA ?_ _|refine bE ?_ Bn.out _));exact Bb.out))⟩;have n4_:Aside0 (w54.heap[Be]?=some (.cells #[.slice Ao49 t161.length co49,.slice Ao53 t164.length co53] 26 (0,0))):=⟨(by rw [hw];exact (by (with_reducible repeat (first|refine bN ?_ _|refine bD ?_|refine bA ?_ _));refine bT (cs:=#[.slice Ao49 t161.length co49,.slice none 0 0]) ?_ 1 _ rfl;(with_reducible repeat (first|refine bN ?_ _|refine bD ?_|refine bA ?_ _));refine bT (cs:=#[.slice none 0 0,.slice none 0 0]) ?_ 0 _ rfl;(with_reducible repeat (first|refine bN ?_ _|refine bD ?_|refine bA ?_ _));exact Bc.out))⟩;have n5_:Aside0 (Below w.heap.size w w54):=⟨(by rw [hw];exact (by repeat (first|(with_reducible first|exact HB.out|apply oA|apply pN|apply o1|refine bS ?_ Bi.out|refine bS ?_ Bj.out|refine bS ?_ Bq.out)|exact HB.out)))⟩;clear hw Bh Bd Ba Bb Bc HB;revert n0_ n1_ n2_ n3_ n4_ n5_;intro Bh Bd Ba Bb Bc HB;have Dg:=cz0 Bc.out;have Dh:=cz1 Bc.out;have Di:=bF Bc.out 0;have Dj:=bF Bc.out 1;have p168:0≤(a1:Int):=oE (by first|(with_reducible assumption)|assumption);have q168:a1<(t164.length:Int):=oE (by first|(with_reducible assumption)|assumption);obtain ⟨ad168,e168,hx168_0⟩:=Kd.at_int (rR Bd.out).2.2 a1 p168 q168;cases e168;replace p168:=eq_true p168;replace q168:=eq_true q168;have p23:0≤(a1:Int):=oE (by first|(with_reducible assumption)|assumption);have q23:(a1:Int)<((t164.length:Int):Int):=oE (by first|(with_reducible assumption)|assumption);obtain ⟨go23,co23,eo23,Br,gl23,cl23,HG23⟩:=Kd.R_form Bd.out (by omega);(first|cases eo23|(injection eo23 with ea_ en_ ec_;(first|subst ea_|(injection ea_ with ea_;subst ea_));subst ec_;clear en_));have GB23:=Am Br;have GG23:=Am HG23;clear Br gl23 HG23;(try simp only [aP] at hx168_0);obtain ⟨hx23_0,hf23_0⟩:=Kd.R_celln 0 Bd.out (a1:Int) p23 q23;replace p23:=eq_true p23;replace q23:=eq_true q23;obtain ⟨hy56_,hz56_⟩:=Kd.R_celln 0 Bd.out (a1:Int) (oE (by first|(with_reducible assumption)|assumption)) (oE (by first|(with_reducible assumption)|assumption));have HP56:=Kd.R_putg Bd.out (a1:Int) (wrap64 ((rd t164 a1) - 1)))|((with_reducible refine gS (t:=3) (p:=12) rfl ?_);refine sE (t:=3) (p:=12) (v:=?vo_w57) (w1:=(w54.setCell ⟨go23,(a1:Int).toNat,none⟩ (.int .i64 (wrap64 ((rd t164 a1) - 1))))) ?hg ?ho ?hn ?hr ?_;(case ho=>rfl);(case hg=>rfl);(case hn=>rfl);(case hr=>first|(go_simp;done)|(go_simp;rfl));intro w57 hw;have hg:w54.grownBy w57 (some go23):=(by rw [hw];exact HP56.2);have hp_:Kd.R (Kd.int .i64) 3 w57 w.heap.size (fun _=>True) (.slice (some ⟨go23,0,none⟩) t164.length co53) y169:=(by rw [hw,Ny169.out];exact HP56.1);clear HP56;have n0_:=Am (bG (g:=Bg) (o:=.cells #[.slice A0_0 l0_0.length c0_0,.slice A0_1 l0_1.length c0_1] 26 (0,0)) (bL Ba.out) hg (rE Bd.out Ba.out (by decide)));have n1_:=Am (bG (g:=Bf) (o:=.cells #[.slice none 0 0,.slice none 0 0] 26 (0,0)) (bL Bb.out) hg (rE Bd.out Bb.out (by decide)));have n2_:=Am (rO (v:=(.slice (some ⟨go23,0,none⟩) t164.length co53)) (rL Bh.out) (rY Bd.out) (by decide) hg);have n3_:=Am (hp_);have n4_:=Am (bG (g:=Be) (o:=.cells #[.slice Ao49 t161.length co49,.slice (some ⟨go23,0,none⟩) t164.length co53] 26 (0,0)) (bL Bc.out) hg (rE Bd.out Bc.out (by decide)));have n5_:=Am ((by rw [hw];exact bS (HB.out) GB23.out:Below w.heap.size w w57));clear Ba Bb Bh Bd Bc HB;revert n0_ n1_ n2_ n3_ n4_ n5_;intro Ba Bb Bh Bd Bc HB;clear hg hw hp_;have Dk:=cz0 Bc.out;have Dl:=cz1 Bc.out;have Dm:=bF Bc.out 0;have Dn:=bF Bc.out 1;have p170:0≤(a1:Int):=oE (by first|(with_reducible assumption)|assumption);have q170:a1<(y169.length:Int):=(by have h_:(a1:Int)<((t164.length:Int):Int):=oE (by first|(with_reducible assumption)|assumption);first|(have e_:=(rR Bd.out).1;omega)|simpa only [Ny169.out,List.length_set] using h_);have ql170:((a1:Int)<((t164.length:Int):Int))=True:=eq_true (oE (by first|(with_reducible assumption)|assumption));obtain ⟨ad170,e170,hx170_0⟩:=Kd.at_int (rR Bd.out).2.2 a1 p170 q170;obtain rfl:(⟨go23,0,none⟩:Addr)=ad170:=(by injection e170);(first|simp only [aP] at hx170_0|simp only [add_at] at hx170_0|simp only [Addr.add,Nat.zero_add] at hx170_0|skip);replace p170:=eq_true p170;replace q170:=eq_true q170;have Do:=cz0 Bb.out;have Dp:=cz1 Bb.out;have Dq:=bF Bb.out 0;have Dr:=bF Bb.out 1)|go_in)
    (try (refine bodyPost_end (v:=.tuple #[]) (hres_ _ _) rfl ?_;go_wp2))
    refine bodyPost_ret (results_ct rfl _ _ Bf 26 #[.slice Ao49 t161.length co49,.slice (some ⟨go23,0,none⟩) t164.length co53] (0,0) _ rfl (by (with_reducible repeat (first|refine bN ?_ _|refine bD ?_|refine bA ?_ _));refine bT (cs:=#[.slice Ao49 t161.length co49,.slice none 0 0]) ?_ 1 _ rfl;(with_reducible repeat (first|refine bN ?_ _|refine bD ?_|refine bA ?_ _));refine bT (cs:=#[.slice none 0 0,.slice none 0 0]) ?_ 0 _ rfl;(with_reducible repeat (first|refine bN ?_ _|refine bD ?_|refine bA ?_ _));exact Bb.out) Try.underlying26 rfl (by kernel_rfl)) rfl ?_
    exact ⟨_,_,by first|rfl|(simp [errW_none,errW_some] <;> rfl)|(simp [*,errW_none,errW_some] <;> rfl),by (with_reducible repeat (first|apply rA|apply rN|apply rD));exact rM (rF (p:=⟨Bf,1,none⟩) (rF (p:=⟨Bf,0,none⟩) (rT Bh.out Bb.out (by decide)) (fun _ hk=>hk.2) (.slice Ao49 t161.length co49)) (fun _ hk=>hk.2) (.slice (some ⟨go23,0,none⟩) t164.length co53)) (fun _ hk=>trivial),by (with_reducible repeat (first|apply rA|apply rN|apply rD));exact rM (rF (p:=⟨Bf,1,none⟩) (rF (p:=⟨Bf,0,none⟩) (rT Bd.out Bb.out (by decide)) (fun _ hk=>hk.2) (.slice Ao49 t161.length co49)) (fun _ hk=>hk.2) (.slice (some ⟨go23,0,none⟩) t164.length co53)) (fun _ hk=>trivial),by repeat (first|(with_reducible first|exact HB.out|apply oA|apply pN|apply o1|refine bS ?_ Bi.out|refine bS ?_ Bj.out|refine bS ?_ Bq.out)|exact HB.out)⟩
   rw [if_pos c24] at H
   have c24b0:((rd y169 a1) == 0)=true:=beq_iff_eq.mpr c24
   have c24b1:((rd y169 a1) != 0)=false:=bne_eq_false_iff_eq.mpr c24
   clear c24
   by_cases c25:a1<(t161.length:Int)
   rotate_left
   ·rw [if_neg c25] at H
    exact absurd H (by simp)
   rw [if_pos c25] at H
   have c25b0:decide (a1<(t161.length:Int))=true:=dT c25
   clear c25
   obtain ⟨y171,hy171⟩:∃ y_:List ByteArray,y_=(t161.set (a1:Int).toNat (⟨#[]⟩:ByteArray)):=⟨_,rfl⟩
   replace H:(some (y171,y169,true))=some (r1,r2,r3):=by first|(rw [hy171];with_reducible exact H)|(have H2_:=(Option.bind_some _ _).symm.trans H;rw [hy171];with_reducible exact H2_)|(have H2_:=(Option.bind_some _ _).symm.trans H;with_reducible exact H2_)|with_reducible exact H|(rw [hy171];exact H)|exact H
   have Ny171:=Am hy171
   clear hy171
   simp only [Option.some.injEq,Prod.mk.injEq] at H
   obtain ⟨rfl,rfl,rfl⟩:=H
   have Dy:=Bk.out
   have Dz:=Bl.out
   have BK:=cz0 Ba.out
   have BL:=cz1 Ba.out
   have BM:=bF Ba.out 0
   have BN:=bF Ba.out 1
   go_wp2_with (first|((with_reducible refine gC (f:=45) rfl ?_);refine goesL_ (some 18) rfl rfl Try.func45 (by kernel_rfl) rfl #[.agg #[.slice A0_0 l0_0.length c0_0,.slice A0_1 l0_1.length c0_1]] rfl (by (try simp only [lM,lC,lN]);first|done|rfl|(simp only [lD,lT];rfl)) ?_;(with_reducible refine (impl_Pages_clone.calls _ _ l0_0 _ _ l0_1 t161 t164 _ ?side1 ?side2 ?side3 ?side4 A20.out).mono ?_);(case side1=>exact cL (cB HR0_0.out HB.out));(case side2=>exact HC0_0.out);(case side3=>exact cL (cB HR0_1.out HB.out));(case side4=>exact HC0_1.out);rintro e w29 ⟨v162,v165,rfl,ho0,ho1,hb⟩;refine ⟨_,rfl,?_⟩;have n0_:=Am (rW ho0 (bZ (by repeat (first|(with_reducible first|exact HB.out|apply oA|apply pN|apply o1|refine bS ?_ Bi.out|refine bS ?_ Bj.out)|exact HB.out))));have n1_:=Am (rW ho1 (bZ (by repeat (first|(with_reducible first|exact HB.out|apply oA|apply pN|apply o1|refine bS ?_ Bi.out|refine bS ?_ Bj.out)|exact HB.out))));have n2_:=Am (bX Ba.out hb);have n3_:=Am (bX Bb.out hb);have n4_:=Am (bP (by repeat (first|(with_reducible first|exact HB.out|apply oA|apply pN|apply o1|refine bS ?_ Bi.out|refine bS ?_ Bj.out)|exact HB.out)) hb);clear Ba Bb HB;revert n0_ n1_ n2_ n3_ n4_;intro Bh Bd Ba Bb HB;(try clear hb);(try clear hb2);(try clear hk);(try clear hi);(try clear ho0);(try clear ho1))|((with_reducible refine gD (N:=6) rfl ?_);refine bI ?hg (N:=6) ?hd (cs:=#[.slice none 0 0,.slice none 0 0]) (t:=26) ?hr ?_;(case hd=>rfl);(case hg=>rfl);(case hr=>first|(go_simp;done)|(go_simp;rfl));intro Be hg w30 hbox hb;have n0_:=Am (rB (rL Bh.out) hb);have n1_:=Am (rB (rL Bd.out) hb);have n2_:=Am (bX Ba.out hb);have n3_:=Am (bX Bb.out hb);have n4_:=Am (bP (by repeat (first|(with_reducible first|exact HB.out|apply oA|apply pN|apply o1|refine bS ?_ Bi.out|refine bS ?_ Bj.out)|exact HB.out)) hb);have n5_:=Am (hbox);have n6_:=Am ((by rw [hg];exact (bZ (by repeat (first|(with_reducible first|exact HB.out|apply oA|apply pN|apply o1|refine bS ?_ Bi.out|refine bS ?_ Bj.out)|exact HB.out))):w.heap.size≤Be));have n7_:=Am ((by rw [hg];exact (bZ (by repeat (first|(with_reducible first|exact HB.out|apply oA|apply pN|apply o1|refine bS ?_ Bi.out|refine bS ?_ Bj.out)|exact HB.out))):w.heap.size≤Be));have n8_:=Am ((nL Ba.out hg));have n9_:=Am ((nG Ba.out hg));have n10_:=Am ((nL Bb.out hg));have n11_:=Am ((nG Bb.out hg));clear Bh Bd Ba Bb HB;revert n0_ n1_ n2_ n3_ n4_ n5_ n6_ n7_ n8_ n9_ n10_ n11_;intro Bh Bd Ba Bb HB Bc BF Bq Bm Bo Bn Bp;clear hb hbox hg;obtain ⟨Ao31,co31,eo31⟩:=rC Bh.out;subst eo31;have DA:=Bo.out;have DB:=Bm.out;have DC:=Bp.out;have DD:=Bn.out;have BO:=cz0 Bc.out;have BP:=cz1 Bc.out;have BQ:=bF Bc.out 0;have BR:=bF Bc.out 1;obtain ⟨Ao35,co35,eo35⟩:=rC Bd.out;subst eo35)|((with_reducible refine gS (t:=26) (p:=6) rfl ?_);refine sE (t:=26) (p:=6) (v:=?vo_w36) (w1:=((w30.setCell ⟨Be,0,none⟩ (.slice Ao31 t161.length co31)).setCell ⟨Be,1,none⟩ (.slice Ao35 t164.length co35))) ?hg ?ho ?hn ?hr ?_;(case ho=>rfl);(case hg=>rfl);(case hn=>rfl);(case hr=>first|(go_simp;done)|(go_simp;rfl));intro w36 hw;have n0_:Aside0 (Kd.R Kd.string 9 w36 w.heap.size (fun _=>True) (.slice Ao31 t161.length co31) t161):=⟨(by rw [hw];exact (by (with_reducible repeat (first|apply rA|apply rN|apply rD));exact rM (rF (p:=⟨Be,1,none⟩) (rF (p:=⟨Be,0,none⟩) (rT Bh.out Bc.out (by decide)) (fun _ hk=>hk.2) (.slice Ao31 t161.length co31)) (fun _ hk=>hk.2) (.slice Ao35 t164.length co35)) (fun _ hk=>trivial)))⟩;have n1_:Aside0 (Kd.R (Kd.int .i64) 3 w36 w.heap.size (fun _=>True) (.slice Ao35 t164.length co35) t164):=⟨(by rw [hw];exact (by (with_reducible repeat (first|apply rA|apply rN|apply rD));exact rM (rF (p:=⟨Be,1,none⟩) (rF (p:=⟨Be,0,none⟩) (rT Bd.out Bc.out (by decide)) (fun _ hk=>hk.2) (.slice Ao31 t161.length co31)) (fun _ hk=>hk.2) (.slice Ao35 t164.length co35)) (fun _ hk=>trivial)))⟩;have n2_:Aside0 (w36.heap[Bg]?=some (.cells #[.slice A0_0 l0_0.length c0_0,.slice A0_1 l0_1.length c0_1] 26 (0,0))):=⟨(by rw [hw];exact (by (with_reducible repeat (first|refine bN ?_ _|refine bD ?_|refine bA ?_ _|refine bE ?_ Bm.out _));exact Ba.out))⟩;have n3_:Aside0 (w36.heap[Bf]?=some (.cells #[.slice none 0 0,.slice none 0 0] 26 (0,0))):=⟨(by rw [hw];exact (by (with_reducible repeat (first|refine bN ?_ _|refine bD ?_|refine bA ?_ _|refine bE ?_ Bn.out _));exact Bb.out))⟩;have n4_:Aside0 (w36.heap[Be]?=some (.cells #[.slice Ao31 t161.length co31,.slice Ao35 t164.length co35] 26 (0,0))):=⟨(by rw [hw];exact (by (with_reducible repeat (first|refine bN ?_ _|refine bD ?_|refine bA ?_ _));refine bT (cs:=#[.slice Ao31 t161.length co31,.slice none 0 0]) ?_ 1 _ rfl;(with_reducible repeat (first|refine bN ?_ _|refine bD ?_|refine bA ?_ _));refine bT (cs:=#[.slice none 0 0,.slice none 0 0]) ?_ 0 _ rfl;(with_reducible repeat (first|refine bN ?_ _|refine bD ?_|refine bA ?_ _));exact Bc.out))⟩;have n5_:Aside0 (Below w.heap.size w w36):=⟨(by rw [hw];exact (by repeat (first|(with_reducible first|exact HB.out|apply oA|apply pN|apply o1|refine bS ?_ Bi.out|refine bS ?_ Bj.out|refine bS ?_ Bq.out)|exact HB.out)))⟩;clear hw Bh Bd Ba Bb Bc HB;revert n0_ n1_ n2_ n3_ n4_ n5_;intro Bh Bd Ba Bb Bc HB;have BS:=cz0 Bc.out;have BT:=cz1 Bc.out;have BU:=bF Bc.out 0;have BV:=bF Bc.out 1;have p168:0≤(a1:Int):=oE (by first|(with_reducible assumption)|assumption);have q168:a1<(t164.length:Int):=oE (by first|(with_reducible assumption)|assumption);obtain ⟨ad168,e168,hx168_0⟩:=Kd.at_int (rR Bd.out).2.2 a1 p168 q168;cases e168;replace p168:=eq_true p168;replace q168:=eq_true q168;have p23:0≤(a1:Int):=oE (by first|(with_reducible assumption)|assumption);have q23:(a1:Int)<((t164.length:Int):Int):=oE (by first|(with_reducible assumption)|assumption);obtain ⟨go23,co23,eo23,Br,gl23,cl23,HG23⟩:=Kd.R_form Bd.out (by omega);(first|cases eo23|(injection eo23 with ea_ en_ ec_;(first|subst ea_|(injection ea_ with ea_;subst ea_));subst ec_;clear en_));have GB23:=Am Br;have GG23:=Am HG23;clear Br gl23 HG23;(try simp only [aP] at hx168_0);obtain ⟨hx23_0,hf23_0⟩:=Kd.R_celln 0 Bd.out (a1:Int) p23 q23;replace p23:=eq_true p23;replace q23:=eq_true q23;obtain ⟨hy38_,hz38_⟩:=Kd.R_celln 0 Bd.out (a1:Int) (oE (by first|(with_reducible assumption)|assumption)) (oE (by first|(with_reducible assumption)|assumption));have HP38:=Kd.R_putg Bd.out (a1:Int) (wrap64 ((rd t164 a1) - 1)))|((with_reducible refine gS (t:=3) (p:=12) rfl ?_);refine sE (t:=3) (p:=12) (v:=?vo_w39) (w1:=(w36.setCell ⟨go23,(a1:Int).toNat,none⟩ (.int .i64 (wrap64 ((rd t164 a1) - 1))))) ?hg ?ho ?hn ?hr ?_;(case ho=>rfl);(case hg=>rfl);(case hn=>rfl);(case hr=>first|(go_simp;done)|(go_simp;rfl));intro w39 hw;have hg:w36.grownBy w39 (some go23):=(by rw [hw];exact HP38.2);have hp_:Kd.R (Kd.int .i64) 3 w39 w.heap.size (fun _=>True) (.slice (some ⟨go23,0,none⟩) t164.length co35) y169:=(by rw [hw,Ny169.out];exact HP38.1);clear HP38;have n0_:=Am (bG (g:=Bg) (o:=.cells #[.slice A0_0 l0_0.length c0_0,.slice A0_1 l0_1.length c0_1] 26 (0,0)) (bL Ba.out) hg (rE Bd.out Ba.out (by decide)));have n1_:=Am (bG (g:=Bf) (o:=.cells #[.slice none 0 0,.slice none 0 0] 26 (0,0)) (bL Bb.out) hg (rE Bd.out Bb.out (by decide)));have n2_:=Am (rO (v:=(.slice (some ⟨go23,0,none⟩) t164.length co35)) (rL Bh.out) (rY Bd.out) (by decide) hg);have n3_:=Am (hp_);have n4_:=Am (bG (g:=Be) (o:=.cells #[.slice Ao31 t161.length co31,.slice (some ⟨go23,0,none⟩) t164.length co35] 26 (0,0)) (bL Bc.out) hg (rE Bd.out Bc.out (by decide)));have n5_:=Am ((by rw [hw];exact bS (HB.out) GB23.out:Below w.heap.size w w39));clear Ba Bb Bh Bd Bc HB;revert n0_ n1_ n2_ n3_ n4_ n5_;intro Ba Bb Bh Bd Bc HB;clear hg hw hp_;have BW:=cz0 Bc.out;have BX:=cz1 Bc.out;have BY:=bF Bc.out 0;have BZ:=bF Bc.out 1;have p170:0≤(a1:Int):=oE (by first|(with_reducible assumption)|assumption);have q170:a1<(y169.length:Int):=(by have h_:(a1:Int)<((t164.length:Int):Int):=oE (by first|(with_reducible assumption)|assumption);first|(have e_:=(rR Bd.out).1;omega)|simpa only [Ny169.out,List.length_set] using h_);have ql170:((a1:Int)<((t164.length:Int):Int))=True:=eq_true (oE (by first|(with_reducible assumption)|assumption));obtain ⟨ad170,e170,hx170_0⟩:=Kd.at_int (rR Bd.out).2.2 a1 p170 q170;obtain rfl:(⟨go23,0,none⟩:Addr)=ad170:=(by injection e170);(first|simp only [aP] at hx170_0|simp only [add_at] at hx170_0|simp only [Addr.add,Nat.zero_add] at hx170_0|skip);replace p170:=eq_true p170;replace q170:=eq_true q170;have p26:0≤(a1:Int):=oE (by first|(with_reducible assumption)|assumption);have q26:(a1:Int)<((t161.length:Int):Int):=oE (by first|(with_reducible assumption)|assumption);obtain ⟨go26,co26,eo26,BE,gl26,cl26,HG26⟩:=Kd.R_form Bh.out (by omega);(first|cases eo26|(injection eo26 with ea_ en_ ec_;(first|subst ea_|(injection ea_ with ea_;subst ea_));subst ec_;clear en_));have GB26:=Am BE;have GG26:=Am HG26;clear BE gl26 HG26;obtain ⟨hx26_0,hf26_0⟩:=Kd.R_celln (⟨#[]⟩:ByteArray) Bh.out (a1:Int) p26 q26;replace p26:=eq_true p26;replace q26:=eq_true q26;obtain ⟨hy41_,hz41_⟩:=Kd.R_celln (⟨#[]⟩:ByteArray) Bh.out (a1:Int) (oE (by first|(with_reducible assumption)|assumption)) (oE (by first|(with_reducible assumption)|assumption));have HP41:=Kd.R_putg Bh.out (a1:Int) (⟨#[]⟩:ByteArray))|((with_reducible refine gS (t:=9) (p:=26) rfl ?_);refine sE (t:=9) (p:=26) (v:=?vo_w42) (w1:=(w39.setCell ⟨go26,(a1:Int).toNat,none⟩ (.string (⟨#[]⟩:ByteArray)))) ?hg ?ho ?hn ?hr ?_;(case ho=>rfl);(case hg=>rfl);(case hn=>rfl);(case hr=>first|(go_simp;done)|(go_simp;rfl));intro w42 hw;have hg:w39.grownBy w42 (some go26):=(by rw [hw];exact HP41.2);have hp_:Kd.R Kd.string 9 w42 w.heap.size (fun _=>True) (.slice (some ⟨go26,0,none⟩) t161.length co31) y171:=(by rw [hw,Ny171.out];exact HP41.1);clear HP41;have n0_:=Am (bG (g:=Bg) (o:=.cells #[.slice A0_0 l0_0.length c0_0,.slice A0_1 l0_1.length c0_1] 26 (0,0)) (bL Ba.out) hg (rE Bh.out Ba.out (by decide)));have n1_:=Am (bG (g:=Bf) (o:=.cells #[.slice none 0 0,.slice none 0 0] 26 (0,0)) (bL Bb.out) hg (rE Bh.out Bb.out (by decide)));have n2_:=Am (hp_);have n3_:=Am (rO (v:=(.slice (some ⟨go26,0,none⟩) t161.length co31)) (rL Bd.out) (rY Bh.out) (by decide) hg);have n4_:=Am (bG (g:=Be) (o:=.cells #[.slice (some ⟨go26,0,none⟩) t161.length co31,.slice (some ⟨go23,0,none⟩) t164.length co35] 26 (0,0)) (bL Bc.out) hg (rE Bh.out Bc.out (by decide)));have n5_:=Am ((by rw [hw];exact bS (HB.out) GB26.out:Below w.heap.size w w42));clear Ba Bb Bh Bd Bc HB;revert n0_ n1_ n2_ n3_ n4_ n5_;intro Ba Bb Bh Bd Bc HB;clear hg hw hp_;have B0:=cz0 Bc.out;have B1:=cz1 Bc.out;have B2:=bF Bc.out 0;have B3:=bF Bc.out 1;have B4:=cz0 Bb.out;have B5:=cz1 Bb.out;have B6:=bF Bb.out 0;have B7:=bF Bb.out 1)|go_in)
   (try (refine bodyPost_end (v:=.tuple #[]) (hres_ _ _) rfl ?_;go_wp2))
   refine bodyPost_ret (results_ct rfl _ _ Bf 26 #[.slice (some ⟨go26,0,none⟩) t161.length co31,.slice (some ⟨go23,0,none⟩) t164.length co35] (0,0) _ rfl (by (with_reducible repeat (first|refine bN ?_ _|refine bD ?_|refine bA ?_ _));refine bT (cs:=#[.slice (some ⟨go26,0,none⟩) t161.length co31,.slice none 0 0]) ?_ 1 _ rfl;(with_reducible repeat (first|refine bN ?_ _|refine bD ?_|refine bA ?_ _));refine bT (cs:=#[.slice none 0 0,.slice none 0 0]) ?_ 0 _ rfl;(with_reducible repeat (first|refine bN ?_ _|refine bD ?_|refine bA ?_ _));exact Bb.out) Try.underlying26 rfl (by kernel_rfl)) rfl ?_
   exact ⟨_,_,by first|rfl|(simp [errW_none,errW_some] <;> rfl)|(simp [*,errW_none,errW_some] <;> rfl),by (with_reducible repeat (first|apply rA|apply rN|apply rD));exact rM (rF (p:=⟨Bf,1,none⟩) (rF (p:=⟨Bf,0,none⟩) (rT Bh.out Bb.out (by decide)) (fun _ hk=>hk.2) (.slice (some ⟨go26,0,none⟩) t161.length co31)) (fun _ hk=>hk.2) (.slice (some ⟨go23,0,none⟩) t164.length co35)) (fun _ hk=>trivial),by (with_reducible repeat (first|apply rA|apply rN|apply rD));exact rM (rF (p:=⟨Bf,1,none⟩) (rF (p:=⟨Bf,0,none⟩) (rT Bd.out Bb.out (by decide)) (fun _ hk=>hk.2) (.slice (some ⟨go26,0,none⟩) t161.length co31)) (fun _ hk=>hk.2) (.slice (some ⟨go23,0,none⟩) t164.length co35)) (fun _ hk=>trivial),by repeat (first|(with_reducible first|exact HB.out|apply oA|apply pN|apply o1|refine bS ?_ Bi.out|refine bS ?_ Bj.out|refine bS ?_ Bq.out)|exact HB.out)⟩
end Go.Proofs.Ytpdfkbggaihfpaa.PFnPagesTake
