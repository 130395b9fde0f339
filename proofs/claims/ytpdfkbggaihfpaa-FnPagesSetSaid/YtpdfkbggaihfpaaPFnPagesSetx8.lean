/- Proved here, without a condition beyond those that each theorem states: what the Go functions named below do is what the plain functions of the same names say. Written by xprint.py, a program of this session. -/
import Derived.Test.YtpdfkbggaihfpaaPFnPagesSetx0
import Derived.Test.YtpdfkbggaihfpaaPFnPagesSetx7
namespace Go.Proofs.Ytpdfkbggaihfpaa.PFnPagesSet
open Go.RowKit Go.Proofs.YtpdfkbggaihfpaaW.PrintWords Go.Proofs.YtpdfkbggaihfpaaW.PrintLast Go.Proofs.YtpdfkbggaihfpaaW.PrintMore
attribute [local go_sem] max2_int min2_int max_two min_two max_three min_three max_four min_four   -- for this text's walks alone
set_option linter.unusedVariables false
set_option linter.unusedSimpArgs false

attribute [local go_sem ↓] isSome_setCell_
/-! ### impl_Pages_has: function 55 -/
def impl_Pages_has.f (l0_0 : List ByteArray) (l0_1 : List Int) (a1 : Int) : Option (Bool) := (impl_in.f a1 0 (wrap64 ((l0_1.length : Int) - 1))).bind fun t227 => (if t227 = true then (if 0 ≤ a1 then (if a1 < (l0_1.length : Int) then (some (decide ((rd l0_1 a1) > 0))) else (none)) else (none)) else (some false))
set_option maxHeartbeats 2000000 in
set_option maxRecDepth 100000 in
theorem impl_Pages_has.calls (A0_0:Option Addr) (c0_0:Nat) (l0_0:List ByteArray) (A0_1:Option Addr) (c0_1:Nat) (l0_1:List Int) (a1:Int) (r:Bool) (w:World) (hr0_0:Kd.C Kd.string w A0_0 l0_0.length l0_0) (hc0_0:l0_0.length≤c0_0) (hr0_1:Kd.C (Kd.int .i64) w A0_1 l0_1.length l0_1) (hc0_1:l0_1.length≤c0_1) (h:impl_Pages_has.f l0_0 l0_1 a1=some r) :
  Calls Try.prog 55 #[.agg #[.slice A0_0 l0_0.length c0_0,.slice A0_1 l0_1.length c0_1],.int .i64 a1] w fun e w'=>e=.returned (.bool r)∧Below w.heap.size w w':=by
 have hu26:=Try.underlying26
 have HR0_0:=Am hr0_0
 have HC0_0:=Am hc0_0
 clear hr0_0 hc0_0
 have HR0_1:=Am hr0_1
 have HC0_1:=Am hc0_1
 clear hr0_1 hc0_1
 have HB:=Am (bJ w.heap.size w)
 have H:((impl_in.f a1 0 (wrap64 ((l0_1.length:Int) - 1))).bind fun t227=>(if t227=true then (if 0≤a1 then (if a1<(l0_1.length:Int) then (some (decide ((rd l0_1 a1) > 0))) else (none)) else (none)) else (some false)))=some r:=h
 clear h
 replace H:=oC H
 obtain ⟨t227,A30,H⟩:=H
 replace H:(if t227=true then (if 0≤a1 then (if a1<(l0_1.length:Int) then (some (decide ((rd l0_1 a1) > 0))) else (none)) else (none)) else (some false))=some r:=H
 have A3:=Am A30
 clear A30
 by_cases c4:t227=true
 rotate_left
 ·replace c4:=Bool.eq_false_iff.mpr c4
  subst c4
  have H1:(some false)=some r:=by rw [if_neg (show ¬ (false=true) by decide)] at H;exact H
  clear H
  have H:=H1
  clear H1
  obtain rfl:=oJ H
  go_enter Try.func55,Try.ntmps55
  go_wp2_with (first|((with_reducible refine gD (N:=2) rfl ?_);refine bI ?hg (N:=2) ?hd (cs:=#[.slice A0_0 l0_0.length c0_0,.slice A0_1 l0_1.length c0_1]) (t:=26) ?hr ?_;(case hd=>rfl);(case hg=>rfl);(case hr=>first|(go_simp;done)|(go_simp;rfl));intro Ba hg w9 hbox hb;have n0_:=Am (bP (by repeat (first|(with_reducible first|exact HB.out|apply oA|apply pN|apply o1)|exact HB.out)) hb);have n1_:=Am (hbox);have n2_:=Am ((by rw [hg];exact (bZ (by repeat (first|(with_reducible first|exact HB.out|apply oA|apply pN|apply o1)|exact HB.out))):w.heap.size≤Ba));have n3_:=Am ((by rw [hg];exact (bZ (by repeat (first|(with_reducible first|exact HB.out|apply oA|apply pN|apply o1)|exact HB.out))):w.heap.size≤Ba));clear HB;revert n0_ n1_ n2_ n3_;intro HB Bb Bd Bc;clear hb hbox hg;have Be:=cz0 Bb.out;have Bf:=cz1 Bb.out;have Bg:=bF Bb.out 0;have Bh:=bF Bb.out 1)|((with_reducible refine gC (f:=48) rfl ?_);refine goesL_ (some 10) rfl rfl Try.func48 (by kernel_rfl) rfl #[.int .i64 a1,.int .i64 0,.int .i64 (wrap64 ((l0_1.length:Int) - 1))] rfl (by (try simp only [lM,lC,lN]);first|done|rfl|(simp only [lD,lT];rfl)) ?_;(with_reducible refine (impl_in.calls a1 0 (wrap64 ((l0_1.length:Int) - 1)) false _ A3.out).mono ?_);rintro e w' ⟨rfl,⟨nd,rfl⟩⟩;refine ⟨_,rfl,?_⟩))
  go_ret
  exact ⟨by first|rfl|(simp [errW_none,errW_some] <;> rfl)|(simp [*,errW_none,errW_some] <;> rfl),by repeat (first|(with_reducible first|exact HB.out|apply oA|apply pN|apply o1|refine bS ?_ Bc.out)|exact HB.out)⟩


 subst c4
 have H1:(if 0≤a1 then (if a1<(l0_1.length:Int) then (some (decide ((rd l0_1 a1) > 0))) else (none)) else (none))=some r:=by rw [if_pos rfl] at H;exact H
 clear H
 have H:=H1
 clear H1
 by_cases c5:0≤a1
 rotate_left
 ·rw [if_neg c5] at H
  exact absurd H (by simp)
 rw [if_pos c5] at H
 have c5b0:decide (0≤a1)=true:=dT c5
 clear c5
 by_cases c6:a1<(l0_1.length:Int)
 rotate_left
 ·rw [if_neg c6] at H
  exact absurd H (by simp)
 rw [if_pos c6] at H
 have c6b0:decide (a1<(l0_1.length:Int))=true:=dT c6
 clear c6
 obtain rfl:=oJ H
 go_enter Try.func55,Try.ntmps55
 go_wp2_with (first|((with_reducible refine gD (N:=2) rfl ?_);refine bI ?hg (N:=2) ?hd (cs:=#[.slice A0_0 l0_0.length c0_0,.slice A0_1 l0_1.length c0_1]) (t:=26) ?hr ?_;(case hd=>rfl);(case hg=>rfl);(case hr=>first|(go_simp;done)|(go_simp;rfl));intro Ba hg w7 hbox hb;have n0_:=Am (bP (by repeat (first|(with_reducible first|exact HB.out|apply oA|apply pN|apply o1)|exact HB.out)) hb);have n1_:=Am (hbox);have n2_:=Am ((by rw [hg];exact (bZ (by repeat (first|(with_reducible first|exact HB.out|apply oA|apply pN|apply o1)|exact HB.out))):w.heap.size≤Ba));have n3_:=Am ((by rw [hg];exact (bZ (by repeat (first|(with_reducible first|exact HB.out|apply oA|apply pN|apply o1)|exact HB.out))):w.heap.size≤Ba));clear HB;revert n0_ n1_ n2_ n3_;intro HB Bb Bd Bc;clear hb hbox hg;have Bi:=cz0 Bb.out;have Bj:=cz1 Bb.out;have Bk:=bF Bb.out 0;have Bl:=bF Bb.out 1)|((with_reducible refine gC (f:=48) rfl ?_);refine goesL_ (some 10) rfl rfl Try.func48 (by kernel_rfl) rfl #[.int .i64 a1,.int .i64 0,.int .i64 (wrap64 ((l0_1.length:Int) - 1))] rfl (by (try simp only [lM,lC,lN]);first|done|rfl|(simp only [lD,lT];rfl)) ?_;(with_reducible refine (impl_in.calls a1 0 (wrap64 ((l0_1.length:Int) - 1)) true _ A3.out).mono ?_);rintro e w' ⟨rfl,⟨nd,rfl⟩⟩;refine ⟨_,rfl,?_⟩;have p228:0≤(a1:Int):=oE (by first|(with_reducible assumption)|assumption);have q228:a1<(l0_1.length:Int):=oE (by first|(with_reducible assumption)|assumption);obtain ⟨ad228,e228,hx228_0⟩:=Kd.at_int HR0_1.out a1 p228 q228;cases e228;replace hx228_0:=(HB.out.cell (World.block_lt_of_cell? w _ hx228_0)).trans hx228_0;replace p228:=eq_true p228;replace q228:=eq_true q228))
 go_ret
 exact ⟨by first|rfl|(simp [errW_none,errW_some] <;> rfl)|(simp [*,errW_none,errW_some] <;> rfl),by repeat (first|(with_reducible first|exact HB.out|apply oA|apply pN|apply o1|refine bS ?_ Bc.out)|exact HB.out)⟩/-! ### impl_PagesGet: function 20 -/
def impl_PagesGet.f (k : Nat) (l0_0 : List ByteArray) (l0_1 : List Int) (a1 : Int) : Option (ByteArray × Bool) := (impl_PagesOk.f k l0_0 l0_1).bind fun t230 => (if t230 = true then ((impl_Pages_has.f l0_0 l0_1 a1).bind fun t231 => (if t231 = true then (if 0 ≤ a1 then (if a1 < (l0_0.length : Int) then (some (rdOf ByteArray.empty l0_0 a1, true)) else (none)) else (none)) else (some ((⟨#[]⟩ : ByteArray), false)))) else (some ((⟨#[]⟩ : ByteArray), false)))
theorem impl_PagesGet.mono : ∀ a0 a1 a2 k, LeO (impl_PagesGet.f k a0 a1 a2) (impl_PagesGet.f (k + 1) a0 a1 a2) := by
 intro a0 a1 a2 k
 unfold impl_PagesGet.f
 repeat' first
  |(with_reducible exact impl_PagesOk.mono _ _ _)
  |(with_reducible exact LeO.refl _)
  |(with_reducible exact LeO.none _)
  |(with_reducible refine LeO.ite ?_ ?_)
  |(with_reducible refine LeO.bind ?_ (fun _ => ?_))
  |exact impl_PagesOk.mono _ _ _
  |exact LeO.none _
  |refine LeO.ite ?_ ?_
  |refine LeO.bind ?_ (fun _ => ?_)
set_option maxHeartbeats 2000000 in
set_option maxRecDepth 100000 in
theorem impl_PagesGet.calls (k:Nat) (A0_0:Option Addr) (c0_0:Nat) (l0_0:List ByteArray) (A0_1:Option Addr) (c0_1:Nat) (l0_1:List Int) (a1:Int) (r1:ByteArray) (r2:Bool) (w:World) (hr0_0:Kd.C Kd.string w A0_0 l0_0.length l0_0) (hc0_0:l0_0.length≤c0_0) (hr0_1:Kd.C (Kd.int .i64) w A0_1 l0_1.length l0_1) (hc0_1:l0_1.length≤c0_1) (h:impl_PagesGet.f k l0_0 l0_1 a1=some (r1,r2)) :
  Calls Try.prog 20 #[.agg #[.slice A0_0 l0_0.length c0_0,.slice A0_1 l0_1.length c0_1],.int .i64 a1] w fun e w'=>e=.returned (.tuple #[.string r1,.bool r2])∧Below w.heap.size w w':=by
 have hu26:=Try.underlying26
 have HR0_0:=Am hr0_0
 have HC0_0:=Am hc0_0
 clear hr0_0 hc0_0
 have HR0_1:=Am hr0_1
 have HC0_1:=Am hc0_1
 clear hr0_1 hc0_1
 have HB:=Am (bJ w.heap.size w)
 have H:((impl_PagesOk.f k l0_0 l0_1).bind fun t230=>(if t230=true then ((impl_Pages_has.f l0_0 l0_1 a1).bind fun t231=>(if t231=true then (if 0≤a1 then (if a1<(l0_0.length:Int) then (some (rdOf ByteArray.empty l0_0 a1,true)) else (none)) else (none)) else (some ((⟨#[]⟩:ByteArray),false)))) else (some ((⟨#[]⟩:ByteArray),false))))=some (r1,r2):=h
 clear h
 replace H:=oC H
 obtain ⟨t230,A30,H⟩:=H
 replace H:(if t230=true then ((impl_Pages_has.f l0_0 l0_1 a1).bind fun t231=>(if t231=true then (if 0≤a1 then (if a1<(l0_0.length:Int) then (some (rdOf ByteArray.empty l0_0 a1,true)) else (none)) else (none)) else (some ((⟨#[]⟩:ByteArray),false)))) else (some ((⟨#[]⟩:ByteArray),false)))=some (r1,r2):=H
 have A3:=Am A30
 clear A30
 by_cases c4:t230=true
 rotate_left
 ·replace c4:=Bool.eq_false_iff.mpr c4
  subst c4
  have H1:(some ((⟨#[]⟩:ByteArray),false))=some (r1,r2):=by rw [if_neg (show ¬ (false=true) by decide)] at H;exact H
  clear H
  have H:=H1
  clear H1
  simp only [Option.some.injEq,Prod.mk.injEq] at H
  obtain ⟨rfl,rfl⟩:=H
  go_enter Try.func20,Try.ntmps20
  go_wp2_with (first|((with_reducible refine gD (N:=2) rfl ?_);refine bI ?hg (N:=2) ?hd (cs:=#[.slice A0_0 l0_0.length c0_0,.slice A0_1 l0_1.length c0_1]) (t:=26) ?hr ?_;(case hd=>rfl);(case hg=>rfl);(case hr=>first|(go_simp;done)|(go_simp;rfl));intro Bb hg w20 hbox hb;have n0_:=Am (bP (by repeat (first|(with_reducible first|exact HB.out|apply oA|apply pN|apply o1)|exact HB.out)) hb);have n1_:=Am (hbox);have n2_:=Am ((by rw [hg];exact (bZ (by repeat (first|(with_reducible first|exact HB.out|apply oA|apply pN|apply o1)|exact HB.out))):w.heap.size≤Bb));have n3_:=Am ((by rw [hg];exact (bZ (by repeat (first|(with_reducible first|exact HB.out|apply oA|apply pN|apply o1)|exact HB.out))):w.heap.size≤Bb));clear HB;revert n0_ n1_ n2_ n3_;intro HB Ba Bd Bc;clear hb hbox hg;have By:=cz0 Ba.out;have Bz:=cz1 Ba.out;have BA:=bF Ba.out 0;have BB:=bF Ba.out 1)|((with_reducible refine gC (f:=29) rfl ?_);refine goesL_ (some 7) rfl rfl Try.func29 (by kernel_rfl) rfl #[.agg #[.slice A0_0 l0_0.length c0_0,.slice A0_1 l0_1.length c0_1]] rfl (by (try simp only [lM,lC,lN]);first|done|rfl|(simp only [lD,lT];rfl)) ?_;(with_reducible refine (impl_PagesOk.calls k _ _ l0_0 _ _ l0_1 false _ ?side1 ?side2 ?side3 ?side4 A3.out).mono ?_);(case side1=>exact cL (cB HR0_0.out HB.out));(case side2=>exact HC0_0.out);(case side3=>exact cL (cB HR0_1.out HB.out));(case side4=>exact HC0_1.out);rintro e w22 ⟨rfl,hb⟩;refine ⟨_,rfl,?_⟩;have n0_:=Am (bX Ba.out hb);have n1_:=Am (bP (by repeat (first|(with_reducible first|exact HB.out|apply oA|apply pN|apply o1|refine bS ?_ Bc.out)|exact HB.out)) hb);clear Ba HB;revert n0_ n1_;intro Ba HB;(try clear hb);(try clear hb2);(try clear hk);(try clear hi)))
  go_ret2
  exact ⟨by first|rfl|(simp [errW_none,errW_some] <;> rfl)|(simp [*,errW_none,errW_some] <;> rfl),by repeat (first|(with_reducible first|exact HB.out|apply oA|apply pN|apply o1|refine bS ?_ Bc.out)|exact HB.out)⟩

 subst c4
 have H1:((impl_Pages_has.f l0_0 l0_1 a1).bind fun t231=>(if t231=true then (if 0≤a1 then (if a1<(l0_0.length:Int) then (some (rdOf ByteArray.empty l0_0 a1,true)) else (none)) else (none)) else (some ((⟨#[]⟩:ByteArray),false))))=some (r1,r2):=by rw [if_pos rfl] at H;exact H
 clear H
 have H:=H1
 clear H1
 replace H:=oC H
 obtain ⟨t231,A50,H⟩:=H
 replace H:(if t231=true then (if 0≤a1 then (if a1<(l0_0.length:Int) then (some (rdOf ByteArray.empty l0_0 a1,true)) else (none)) else (none)) else (some ((⟨#[]⟩:ByteArray),false)))=some (r1,r2):=H
 have A5:=Am A50
 clear A50
 by_cases c6:t231=true
 rotate_left
 ·replace c6:=Bool.eq_false_iff.mpr c6
  subst c6
  have H1:(some ((⟨#[]⟩:ByteArray),false))=some (r1,r2):=by rw [if_neg (show ¬ (false=true) by decide)] at H;exact H
  clear H
  have H:=H1
  clear H1
  simp only [Option.some.injEq,Prod.mk.injEq] at H
  obtain ⟨rfl,rfl⟩:=H
  go_enter Try.func20,Try.ntmps20
  go_wp2_with (first|((with_reducible refine gD (N:=2) rfl ?_);refine bI ?hg (N:=2) ?hd (cs:=#[.slice A0_0 l0_0.length c0_0,.slice A0_1 l0_1.length c0_1]) (t:=26) ?hr ?_;(case hd=>rfl);(case hg=>rfl);(case hr=>first|(go_simp;done)|(go_simp;rfl));intro Bb hg w15 hbox hb;have n0_:=Am (bP (by repeat (first|(with_reducible first|exact HB.out|apply oA|apply pN|apply o1)|exact HB.out)) hb);have n1_:=Am (hbox);have n2_:=Am ((by rw [hg];exact (bZ (by repeat (first|(with_reducible first|exact HB.out|apply oA|apply pN|apply o1)|exact HB.out))):w.heap.size≤Bb));have n3_:=Am ((by rw [hg];exact (bZ (by repeat (first|(with_reducible first|exact HB.out|apply oA|apply pN|apply o1)|exact HB.out))):w.heap.size≤Bb));clear HB;revert n0_ n1_ n2_ n3_;intro HB Ba Bd Bc;clear hb hbox hg;have Bq:=cz0 Ba.out;have Br:=cz1 Ba.out;have Bs:=bF Ba.out 0;have Bt:=bF Ba.out 1)|((with_reducible refine gC (f:=29) rfl ?_);refine goesL_ (some 7) rfl rfl Try.func29 (by kernel_rfl) rfl #[.agg #[.slice A0_0 l0_0.length c0_0,.slice A0_1 l0_1.length c0_1]] rfl (by (try simp only [lM,lC,lN]);first|done|rfl|(simp only [lD,lT];rfl)) ?_;(with_reducible refine (impl_PagesOk.calls k _ _ l0_0 _ _ l0_1 true _ ?side1 ?side2 ?side3 ?side4 A3.out).mono ?_);(case side1=>exact cL (cB HR0_0.out HB.out));(case side2=>exact HC0_0.out);(case side3=>exact cL (cB HR0_1.out HB.out));(case side4=>exact HC0_1.out);rintro e w17 ⟨rfl,hb⟩;refine ⟨_,rfl,?_⟩;have n0_:=Am (bX Ba.out hb);have n1_:=Am (bP (by repeat (first|(with_reducible first|exact HB.out|apply oA|apply pN|apply o1|refine bS ?_ Bc.out)|exact HB.out)) hb);clear Ba HB;revert n0_ n1_;intro Ba HB;(try clear hb);(try clear hb2);(try clear hk);(try clear hi);have Bu:=cz0 Ba.out;have Bv:=cz1 Ba.out;have Bw:=bF Ba.out 0;have Bx:=bF Ba.out 1)|(go_at_call 55;(with_reducible refine (impl_Pages_has.calls _ _ l0_0 _ _ l0_1 a1 false _ ?side1 ?side2 ?side3 ?side4 A5.out).mono ?_);(case side1=>exact cL (cB HR0_0.out HB.out));(case side2=>exact HC0_0.out);(case side3=>exact cL (cB HR0_1.out HB.out));(case side4=>exact HC0_1.out);rintro e w19 ⟨rfl,hb⟩;have n0_:=Am (bX Ba.out hb);have n1_:=Am (bP (by repeat (first|(with_reducible first|exact HB.out|apply oA|apply pN|apply o1|refine bS ?_ Bc.out)|exact HB.out)) hb);clear Ba HB;revert n0_ n1_;intro Ba HB;(try clear hb);(try clear hb2);(try clear hk);(try clear hi)))
  go_ret2
  exact ⟨by first|rfl|(simp [errW_none,errW_some] <;> rfl)|(simp [*,errW_none,errW_some] <;> rfl),by repeat (first|(with_reducible first|exact HB.out|apply oA|apply pN|apply o1|refine bS ?_ Bc.out)|exact HB.out)⟩
 subst c6
 have H1:(if 0≤a1 then (if a1<(l0_0.length:Int) then (some (rdOf ByteArray.empty l0_0 a1,true)) else (none)) else (none))=some (r1,r2):=by rw [if_pos rfl] at H;exact H
 clear H
 have H:=H1
 clear H1
 by_cases c7:0≤a1
 rotate_left
 ·rw [if_neg c7] at H
  exact absurd H (by simp)
 rw [if_pos c7] at H
 have c7b0:decide (0≤a1)=true:=dT c7
 clear c7
 by_cases c8:a1<(l0_0.length:Int)
 rotate_left
 ·rw [if_neg c8] at H
  exact absurd H (by simp)
 rw [if_pos c8] at H
 have c8b0:decide (a1<(l0_0.length:Int))=true:=dT c8
 clear c8
 simp only [Option.some.injEq,Prod.mk.injEq] at H
 obtain ⟨rfl,rfl⟩:=H
 go_enter Try.func20,Try.ntmps20
 go_wp2_with (first|((with_reducible refine gD (N:=2) rfl ?_);refine bI ?hg (N:=2) ?hd (cs:=#[.slice A0_0 l0_0.length c0_0,.slice A0_1 l0_1.length c0_1]) (t:=26) ?hr ?_;(case hd=>rfl);(case hg=>rfl);(case hr=>first|(go_simp;done)|(go_simp;rfl));intro Bb hg w9 hbox hb;have n0_:=Am (bP (by repeat (first|(with_reducible first|exact HB.out|apply oA|apply pN|apply o1)|exact HB.out)) hb);have n1_:=Am (hbox);have n2_:=Am ((by rw [hg];exact (bZ (by repeat (first|(with_reducible first|exact HB.out|apply oA|apply pN|apply o1)|exact HB.out))):w.heap.size≤Bb));have n3_:=Am ((by rw [hg];exact (bZ (by repeat (first|(with_reducible first|exact HB.out|apply oA|apply pN|apply o1)|exact HB.out))):w.heap.size≤Bb));clear HB;revert n0_ n1_ n2_ n3_;intro HB Ba Bd Bc;clear hb hbox hg;have Be:=cz0 Ba.out;have Bf:=cz1 Ba.out;have Bg:=bF Ba.out 0;have Bh:=bF Ba.out 1)|((with_reducible refine gC (f:=29) rfl ?_);refine goesL_ (some 7) rfl rfl Try.func29 (by kernel_rfl) rfl #[.agg #[.slice A0_0 l0_0.length c0_0,.slice A0_1 l0_1.length c0_1]] rfl (by (try simp only [lM,lC,lN]);first|done|rfl|(simp only [lD,lT];rfl)) ?_;(with_reducible refine (impl_PagesOk.calls k _ _ l0_0 _ _ l0_1 true _ ?side1 ?side2 ?side3 ?side4 A3.out).mono ?_);(case side1=>exact cL (cB HR0_0.out HB.out));(case side2=>exact HC0_0.out);(case side3=>exact cL (cB HR0_1.out HB.out));(case side4=>exact HC0_1.out);rintro e w11 ⟨rfl,hb⟩;refine ⟨_,rfl,?_⟩;have n0_:=Am (bX Ba.out hb);have n1_:=Am (bP (by repeat (first|(with_reducible first|exact HB.out|apply oA|apply pN|apply o1|refine bS ?_ Bc.out)|exact HB.out)) hb);clear Ba HB;revert n0_ n1_;intro Ba HB;(try clear hb);(try clear hb2);(try clear hk);(try clear hi);have Bi:=cz0 Ba.out;have Bj:=cz1 Ba.out;have Bk:=bF Ba.out 0;have Bl:=bF Ba.out 1)|(go_at_call 55;(with_reducible refine (impl_Pages_has.calls _ _ l0_0 _ _ l0_1 a1 true _ ?side1 ?side2 ?side3 ?side4 A5.out).mono ?_);(case side1=>exact cL (cB HR0_0.out HB.out));(case side2=>exact HC0_0.out);(case side3=>exact cL (cB HR0_1.out HB.out));(case side4=>exact HC0_1.out);rintro e w13 ⟨rfl,hb⟩;have n0_:=Am (bX Ba.out hb);have n1_:=Am (bP (by repeat (first|(with_reducible first|exact HB.out|apply oA|apply pN|apply o1|refine bS ?_ Bc.out)|exact HB.out)) hb);clear Ba HB;revert n0_ n1_;intro Ba HB;(try clear hb);(try clear hb2);(try clear hk);(try clear hi);have Bm:=cz0 Ba.out;have Bn:=cz1 Ba.out;have Bo:=bF Ba.out 0;have Bp:=bF Ba.out 1;have p232:0≤(a1:Int):=oE (by first|(with_reducible assumption)|assumption);have q232:a1<(l0_0.length:Int):=oE (by first|(with_reducible assumption)|assumption);obtain ⟨ad232,e232,hx232_0⟩:=Kd.at_string HR0_0.out a1 p232 q232;cases e232;replace hx232_0:=(HB.out.cell (World.block_lt_of_cell? w _ hx232_0)).trans hx232_0;replace p232:=eq_true p232;replace q232:=eq_true q232))
 go_ret2
 exact ⟨by first|rfl|(simp [errW_none,errW_some] <;> rfl)|(simp [*,errW_none,errW_some] <;> rfl),by repeat (first|(with_reducible first|exact HB.out|apply oA|apply pN|apply o1|refine bS ?_ Bc.out)|exact HB.out)⟩
end Go.Proofs.Ytpdfkbggaihfpaa.PFnPagesSet
