/- Proved here, without a condition beyond those that each theorem states: what the Go functions named below do is what the plain functions of the same names say. Written by xprint.py, a program of this session. -/
import Derived.Test.YtiifanjjohophaaPFnSigsDrainx0
import Derived.Test.YtiifanjjohophaaPFnSigsDrainx1
import Derived.Test.YtiifanjjohophaaPFnSigsDrainx2
import Derived.Test.YtiifanjjohophaaPFnSigsDrainx3
namespace Go.Proofs.Ytiifanjjohophaa.PFnSigsDrain
open Go.RowKit Go.Proofs.YtiifanjjohophaaW.PrintWords Go.Proofs.YtiifanjjohophaaW.PrintLast Go.Proofs.YtiifanjjohophaaW.PrintMore
attribute [local go_sem] max2_int min2_int max_two min_two max_three min_three max_four min_four   -- for this text's walks alone
set_option linter.unusedVariables false
set_option linter.unusedSimpArgs false

attribute [local go_sem ↓] isSome_setCell_
/-! ### impl_Sigs_does: function 40 -/
def impl_Sigs_does.f (k : Nat) (l0_0 : List Bool) (l0_1 : List Bool) (l0_2 : List Int) (a1 : Int) : Option (Int) := if 0 ≤ (wrap64 (a1 - 1)) then (if (wrap64 (a1 - 1)) < (l0_2.length : Int) then (if (rd l0_2 (wrap64 (a1 - 1))) = 0 then ((impl_usual.f k a1).bind fun t138 => (some t138)) else (some (rd l0_2 (wrap64 (a1 - 1))))) else (none)) else (none)
theorem impl_Sigs_does.mono : ∀ a0 a1 a2 a3 k, LeO (impl_Sigs_does.f k a0 a1 a2 a3) (impl_Sigs_does.f (k + 1) a0 a1 a2 a3) := by
 intro a0 a1 a2 a3 k
 unfold impl_Sigs_does.f
 repeat' first
  |(with_reducible exact impl_usual.mono _ _)
  |(with_reducible exact LeO.refl _)
  |(with_reducible exact LeO.none _)
  |(with_reducible refine LeO.ite ?_ ?_)
  |(with_reducible refine LeO.bind ?_ (fun _ => ?_))
  |exact impl_usual.mono _ _
  |exact LeO.none _
  |refine LeO.ite ?_ ?_
  |refine LeO.bind ?_ (fun _ => ?_)
set_option maxHeartbeats 2000000 in
set_option maxRecDepth 100000 in
theorem impl_Sigs_does.calls (k:Nat) (A0_0:Option Addr) (c0_0:Nat) (l0_0:List Bool) (A0_1:Option Addr) (c0_1:Nat) (l0_1:List Bool) (A0_2:Option Addr) (c0_2:Nat) (l0_2:List Int) (a1:Int) (r:Int) (w:World) (hr0_0:Kd.C Kd.bool w A0_0 l0_0.length l0_0) (hc0_0:l0_0.length≤c0_0) (hr0_1:Kd.C Kd.bool w A0_1 l0_1.length l0_1) (hc0_1:l0_1.length≤c0_1) (hr0_2:Kd.C (Kd.int .i64) w A0_2 l0_2.length l0_2) (hc0_2:l0_2.length≤c0_2) (h:impl_Sigs_does.f k l0_0 l0_1 l0_2 a1=some r) :
  Calls Try.prog 40 #[.agg #[.slice A0_0 l0_0.length c0_0,.slice A0_1 l0_1.length c0_1,.slice A0_2 l0_2.length c0_2],.int .i64 a1] w fun e w'=>e=.returned (.int .i64 r)∧Below w.heap.size w w':=by
 have hu26:=Try.underlying26
 have HR0_0:=Am hr0_0
 have HC0_0:=Am hc0_0
 clear hr0_0 hc0_0
 have HR0_1:=Am hr0_1
 have HC0_1:=Am hc0_1
 clear hr0_1 hc0_1
 have HR0_2:=Am hr0_2
 have HC0_2:=Am hc0_2
 clear hr0_2 hc0_2
 have HB:=Am (bJ w.heap.size w)
 have H:(if 0≤(wrap64 (a1 - 1)) then (if (wrap64 (a1 - 1))<(l0_2.length:Int) then (if (rd l0_2 (wrap64 (a1 - 1)))=0 then ((impl_usual.f k a1).bind fun t138=>(some t138)) else (some (rd l0_2 (wrap64 (a1 - 1))))) else (none)) else (none))=some r:=h
 clear h
 obtain ⟨ji3,hji3⟩:∃ j_:Int,(wrap64 (a1 - 1))=j_:=⟨_,rfl⟩
 replace H:(if 0≤(ji3) then (if (ji3)<(l0_2.length:Int) then (if (rd l0_2 (ji3))=0 then ((impl_usual.f k a1).bind fun t138=>(some t138)) else (some (rd l0_2 (ji3)))) else (none)) else (none))=some r:=by first|(rw [hji3] at H;exact H)|(simp only [hji3] at H ⊢;exact H)
 have hji3w:(IntKind.i64.wrap (a1 - 1))=ji3:=(i64_w _).trans hji3
 by_cases c4:0≤(ji3)
 rotate_left
 ·rw [if_neg c4] at H
  exact absurd H (by simp)


 rw [if_pos c4] at H
 have c4b0:decide (0≤(ji3))=true:=dT c4
 clear c4
 by_cases c5:(ji3)<(l0_2.length:Int)
 rotate_left
 ·rw [if_neg c5] at H
  exact absurd H (by simp)
 rw [if_pos c5] at H
 have c5b0:decide ((ji3)<(l0_2.length:Int))=true:=dT c5
 clear c5
 by_cases c6:(rd l0_2 (ji3))=0
 ·rw [if_pos c6] at H
  have c6b0:((rd l0_2 (ji3)) == 0)=true:=beq_iff_eq.mpr c6
  have c6b1:((rd l0_2 (ji3)) != 0)=false:=bne_eq_false_iff_eq.mpr c6
  clear c6
  replace H:=oC H
  obtain ⟨t138,A70,H⟩:=H
  replace H:(some t138)=some r:=H
  have A7:=Am A70
  clear A70
  obtain rfl:=oJ H
  go_enter Try.func40,Try.ntmps40
  go_wp2_with (first|((with_reducible refine gD (N:=2) rfl ?_);refine bI ?hg (N:=2) ?hd (cs:=#[.slice A0_0 l0_0.length c0_0,.slice A0_1 l0_1.length c0_1,.slice A0_2 l0_2.length c0_2]) (t:=26) ?hr ?_;(case hd=>rfl);(case hg=>rfl);(case hr=>first|(go_simp;done)|(go_simp;rfl));intro Bb hg w8 hbox hb;have n0_:=Am (bP (by repeat (first|(with_reducible first|exact HB.out|apply oA|apply pN|apply o1)|exact HB.out)) hb);have n1_:=Am (hbox);have n2_:=Am ((by rw [hg];exact (bZ (by repeat (first|(with_reducible first|exact HB.out|apply oA|apply pN|apply o1)|exact HB.out))):w.heap.size≤Bb));have n3_:=Am ((by rw [hg];exact (bZ (by repeat (first|(with_reducible first|exact HB.out|apply oA|apply pN|apply o1)|exact HB.out))):w.heap.size≤Bb));clear HB;revert n0_ n1_ n2_ n3_;intro HB Ba Bd Bc;clear hb hbox hg;have Bk:=cz0 Ba.out;have Bl:=cz1 Ba.out;have Bm:=cz2 Ba.out;have Bn:=bF Ba.out 0;have Bo:=bF Ba.out 1;have Bp:=bF Ba.out 2;have p137:0≤((ji3):Int):=oE (by first|(with_reducible assumption)|assumption);have q137:(ji3)<(l0_2.length:Int):=oE (by first|(with_reducible assumption)|assumption);obtain ⟨ad137,e137,hx137_0⟩:=Kd.at_int HR0_2.out (ji3) p137 q137;cases e137;replace hx137_0:=(HB.out.cell (World.block_lt_of_cell? w _ hx137_0)).trans hx137_0;replace p137:=eq_true p137;replace q137:=eq_true q137)|((with_reducible refine gC (f:=53) rfl ?_);refine goesL_ (some 13) rfl rfl Try.func53 (by kernel_rfl) rfl #[.int .i64 a1] rfl (by (try simp only [lM,lC,lN]);first|done|rfl|(simp only [lD,lT];rfl)) ?_;(with_reducible refine (impl_usual.calls k a1 t138 _ A7.out).mono ?_);rintro e w' ⟨rfl,⟨nd,rfl⟩⟩;refine ⟨_,rfl,?_⟩))
  go_ret
  exact ⟨by first|rfl|(simp [errW_none,errW_some] <;> rfl)|(simp only [← hji3];first|rfl|(simp [errW_none,errW_some] <;> rfl))|(simp [*,errW_none,errW_some] <;> rfl),by repeat (first|(with_reducible first|exact HB.out|apply oA|apply pN|apply o1|refine bS ?_ Bc.out)|exact HB.out)⟩
 rw [if_neg c6] at H
 have c6b0:((rd l0_2 (ji3)) == 0)=false:=beq_eq_false_iff_ne.mpr c6
 have c6b1:((rd l0_2 (ji3)) != 0)=true:=bne_iff_ne.mpr c6
 obtain rfl:=oJ H
 go_enter Try.func40,Try.ntmps40
 go_wp2_with (first|((with_reducible refine gD (N:=2) rfl ?_);refine bI ?hg (N:=2) ?hd (cs:=#[.slice A0_0 l0_0.length c0_0,.slice A0_1 l0_1.length c0_1,.slice A0_2 l0_2.length c0_2]) (t:=26) ?hr ?_;(case hd=>rfl);(case hg=>rfl);(case hr=>first|(go_simp;done)|(go_simp;rfl));intro Bb hg w10 hbox hb;have n0_:=Am (bP (by repeat (first|(with_reducible first|exact HB.out|apply oA|apply pN|apply o1)|exact HB.out)) hb);have n1_:=Am (hbox);have n2_:=Am ((by rw [hg];exact (bZ (by repeat (first|(with_reducible first|exact HB.out|apply oA|apply pN|apply o1)|exact HB.out))):w.heap.size≤Bb));have n3_:=Am ((by rw [hg];exact (bZ (by repeat (first|(with_reducible first|exact HB.out|apply oA|apply pN|apply o1)|exact HB.out))):w.heap.size≤Bb));clear HB;revert n0_ n1_ n2_ n3_;intro HB Ba Bd Bc;clear hb hbox hg;have Be:=cz0 Ba.out;have Bf:=cz1 Ba.out;have Bg:=cz2 Ba.out;have Bh:=bF Ba.out 0;have Bi:=bF Ba.out 1;have Bj:=bF Ba.out 2;have p137:0≤((ji3):Int):=oE (by first|(with_reducible assumption)|assumption);have q137:(ji3)<(l0_2.length:Int):=oE (by first|(with_reducible assumption)|assumption);obtain ⟨ad137,e137,hx137_0⟩:=Kd.at_int HR0_2.out (ji3) p137 q137;cases e137;replace hx137_0:=(HB.out.cell (World.block_lt_of_cell? w _ hx137_0)).trans hx137_0;replace p137:=eq_true p137;replace q137:=eq_true q137;have p139:0≤((ji3):Int):=oE (by first|(with_reducible assumption)|assumption);have q139:(ji3)<(l0_2.length:Int):=oE (by first|(with_reducible assumption)|assumption);obtain ⟨ad139,e139,hx139_0⟩:=Kd.at_int HR0_2.out (ji3) p139 q139;obtain rfl:ad137=ad139:=(by injection e139);replace hx139_0:=(HB.out.cell (World.block_lt_of_cell? w _ hx139_0)).trans hx139_0;replace p139:=eq_true p139;replace q139:=eq_true q139))
 go_ret
 exact ⟨by first|rfl|(simp [errW_none,errW_some] <;> rfl)|(simp only [← hji3];first|rfl|(simp [errW_none,errW_some] <;> rfl))|(simp [*,errW_none,errW_some] <;> rfl),by repeat (first|(with_reducible first|exact HB.out|apply oA|apply pN|apply o1|refine bS ?_ Bc.out)|exact HB.out)⟩/-! ### impl_SigsNext: function 13 -/
def impl_SigsNext.f (k : Nat) (l0_0 : List Bool) (l0_1 : List Bool) (l0_2 : List Int) : Option (List Bool × List Bool × List Int × Int × Int × Bool) := (impl_SigsOk.f k l0_0 l0_1 l0_2).bind fun t142 => (if t142 = true then ((impl_Sigs_clone.f l0_0 l0_1 l0_2).bind fun bt143 => ((impl_Sigs_first.f k l0_0 l0_1 l0_2).bind fun t153 => (if t153 = 0 then (some (bt143.1, bt143.2.1, bt143.2.2, 0, 1, false)) else (if 0 ≤ (wrap64 (t153 - 1)) then (if (wrap64 (t153 - 1)) < (bt143.1.length : Int) then ((impl_Sigs_does.f k l0_0 l0_1 l0_2 t153).bind fun t155 => (some ((bt143.1.set ((wrap64 (t153 - 1)) : Int).toNat false), bt143.2.1, bt143.2.2, t153, t155, true))) else (none)) else (none))))) else (some (([] : List Bool), ([] : List Bool), ([] : List Int), 0, 1, false)))
theorem impl_SigsNext.mono : ∀ a0 a1 a2 k, LeO (impl_SigsNext.f k a0 a1 a2) (impl_SigsNext.f (k + 1) a0 a1 a2) := by
 intro a0 a1 a2 k
 unfold impl_SigsNext.f
 repeat' first
  |(with_reducible exact impl_SigsOk.mono _ _ _ _)
  |(with_reducible exact impl_Sigs_does.mono _ _ _ _ _)
  |(with_reducible exact impl_Sigs_first.mono _ _ _ _)
  |(with_reducible exact LeO.refl _)
  |(with_reducible exact LeO.none _)
  |(with_reducible refine LeO.ite ?_ ?_)
  |(with_reducible refine LeO.bind ?_ (fun _ => ?_))
  |exact impl_SigsOk.mono _ _ _ _
  |exact impl_Sigs_does.mono _ _ _ _ _
  |exact impl_Sigs_first.mono _ _ _ _
  |exact LeO.none _
  |refine LeO.ite ?_ ?_
  |refine LeO.bind ?_ (fun _ => ?_)
def impl_SigsNext.T8 : Bool × List (List Nat × List Nat) := (true, [([], []), ([], []), ([], []), ([], []), ([2, 3], [2, 3]), ([0, 4, 0], [0]), ([1, 5, 0, 1, 5], [1]), ([4, 6, 0, 1, 2, 3, 4, 5, 6], [4]), ([7, 0, 1, 2, 3, 4, 5, 6, 7], [])])
def impl_SigsNext.B8 : List Nat := [0, 0, 0, 0, 12, 29, 63, 127, 255]
theorem impl_SigsNext.tab8 : rtab .any (opsOf Try.f13 8) = impl_SigsNext.T8 := by kernel_rfl
theorem impl_SigsNext.bits8 : waitsOk impl_SigsNext.T8.2 impl_SigsNext.B8 = true := by kernel_rfl
abbrev z13q0 : Array Bool := bQ 9 0
abbrev z13q1 : Array Bool := bQ 9 2
abbrev z13q2 : Array Bool := bQ 9 10
abbrev z13q3 : Array Bool := bQ 9 11
abbrev z13q4 : Array Bool := bQ 9 15
abbrev z13q5 : Array Bool := bQ 9 31
abbrev z13q6 : Array Bool := bQ 9 63
abbrev z13q7 : Array Bool := bQ 9 127
abbrev z13q8 : Array Bool := bQ 9 255
abbrev z13q9 : Array Bool := bQ 9 511
set_option maxHeartbeats 2000000 in
set_option maxRecDepth 100000 in
theorem impl_SigsNext.calls (k:Nat) (A0_0:Option Addr) (c0_0:Nat) (l0_0:List Bool) (A0_1:Option Addr) (c0_1:Nat) (l0_1:List Bool) (A0_2:Option Addr) (c0_2:Nat) (l0_2:List Int) (r1:List Bool) (r2:List Bool) (r3:List Int) (r4:Int) (r5:Int) (r6:Bool) (w:World) (hr0_0:Kd.C Kd.bool w A0_0 l0_0.length l0_0) (hc0_0:l0_0.length≤c0_0) (hr0_1:Kd.C Kd.bool w A0_1 l0_1.length l0_1) (hc0_1:l0_1.length≤c0_1) (hr0_2:Kd.C (Kd.int .i64) w A0_2 l0_2.length l0_2) (hc0_2:l0_2.length≤c0_2) (h:impl_SigsNext.f k l0_0 l0_1 l0_2=some (r1,r2,r3,r4,r5,r6)) :
  Calls Try.prog 13 #[.agg #[.slice A0_0 l0_0.length c0_0,.slice A0_1 l0_1.length c0_1,.slice A0_2 l0_2.length c0_2]] w fun e w'=>∃ v0_ v1_ v2_:Value,e=.returned (.tuple #[.agg #[v0_,v1_,v2_],.int .i64 r4,.int .i64 r5,.bool r6])∧Kd.R Kd.bool 4 w' w.heap.size (fun k_=>some k_≠(v1_:Value).ownBlock) v0_ r1∧Kd.R Kd.bool 4 w' w.heap.size (fun k_=>some k_≠(v0_:Value).ownBlock) v1_ r2∧Kd.R (Kd.int .i64) 3 w' w.heap.size (fun _=>True) v2_ r3∧Below w.heap.size w w':=by
 have hu26:=Try.underlying26
 have HR0_0:=Am hr0_0
 have HC0_0:=Am hc0_0
 clear hr0_0 hc0_0
 have HR0_1:=Am hr0_1
 have HC0_1:=Am hc0_1
 clear hr0_1 hc0_1
 have HR0_2:=Am hr0_2
 have HC0_2:=Am hc0_2
 clear hr0_2 hc0_2
 have HB:=Am (bJ w.heap.size w)
 have H:((impl_SigsOk.f k l0_0 l0_1 l0_2).bind fun t142=>(if t142=true then ((impl_Sigs_clone.f l0_0 l0_1 l0_2).bind fun bt143=>((impl_Sigs_first.f k l0_0 l0_1 l0_2).bind fun t153=>(if t153=0 then (some (bt143.1,bt143.2.1,bt143.2.2,0,1,false)) else (if 0≤(wrap64 (t153 - 1)) then (if (wrap64 (t153 - 1))<(bt143.1.length:Int) then ((impl_Sigs_does.f k l0_0 l0_1 l0_2 t153).bind fun t155=>(some ((bt143.1.set ((wrap64 (t153 - 1)):Int).toNat false),bt143.2.1,bt143.2.2,t153,t155,true))) else (none)) else (none))))) else (some (([]:List Bool),([]:List Bool),([]:List Int),0,1,false))))=some (r1,r2,r3,r4,r5,r6):=h
 clear h
 replace H:=oC H
 obtain ⟨t142,A20,H⟩:=H
 replace H:(if t142=true then ((impl_Sigs_clone.f l0_0 l0_1 l0_2).bind fun bt143=>((impl_Sigs_first.f k l0_0 l0_1 l0_2).bind fun t153=>(if t153=0 then (some (bt143.1,bt143.2.1,bt143.2.2,0,1,false)) else (if 0≤(wrap64 (t153 - 1)) then (if (wrap64 (t153 - 1))<(bt143.1.length:Int) then ((impl_Sigs_does.f k l0_0 l0_1 l0_2 t153).bind fun t155=>(some ((bt143.1.set ((wrap64 (t153 - 1)):Int).toNat false),bt143.2.1,bt143.2.2,t153,t155,true))) else (none)) else (none))))) else (some (([]:List Bool),([]:List Bool),([]:List Int),0,1,false)))=some (r1,r2,r3,r4,r5,r6):=H
 have A2:=Am A20
 clear A20
 by_cases c3:t142=true
 rotate_left
 ·replace c3:=Bool.eq_false_iff.mpr c3
  subst c3
  have H1:(some (([]:List Bool),([]:List Bool),([]:List Int),0,1,false))=some (r1,r2,r3,r4,r5,r6):=by rw [if_neg (show ¬ (false=true) by decide)] at H;exact H
  clear H
  have H:=H1
  clear H1
  simp only [Option.some.injEq,Prod.mk.injEq] at H
  obtain ⟨rfl,rfl,rfl,rfl,rfl,rfl⟩:=H
  go_enter Try.func13,Try.ntmps13
  go_wp2_with (first|((with_reducible refine gD (N:=1) rfl ?_);refine bI ?hg (N:=1) ?hd (cs:=#[.slice A0_0 l0_0.length c0_0,.slice A0_1 l0_1.length c0_1,.slice A0_2 l0_2.length c0_2]) (t:=26) ?hr ?_;(case hd=>rfl);(case hg=>rfl);(case hr=>first|(go_simp;done)|(go_simp;rfl));intro Bd hg w54 hbox hb;have n0_:=Am (bP (by repeat (first|(with_reducible first|exact HB.out|apply oA|apply pN|apply o1)|exact HB.out)) hb);have n1_:=Am (hbox);have n2_:=Am ((by rw [hg];exact (bZ (by repeat (first|(with_reducible first|exact HB.out|apply oA|apply pN|apply o1)|exact HB.out))):w.heap.size≤Bd));have n3_:=Am ((by rw [hg];exact (bZ (by repeat (first|(with_reducible first|exact HB.out|apply oA|apply pN|apply o1)|exact HB.out))):w.heap.size≤Bd));clear HB;revert n0_ n1_ n2_ n3_;intro HB Ba Bs Bg;clear hb hbox hg)|((with_reducible refine gD (N:=2) rfl ?_);refine bI ?hg (N:=2) ?hd (cs:=#[.slice none 0 0,.slice none 0 0,.slice none 0 0]) (t:=26) ?hr ?_;(case hd=>rfl);(case hg=>rfl);(case hr=>first|(go_simp;done)|(go_simp;rfl));intro Bb hg w55 hbox hb;have n0_:=Am (bX Ba.out hb);have n1_:=Am (bP (by repeat (first|(with_reducible first|exact HB.out|apply oA|apply pN|apply o1|refine bS ?_ Bg.out)|exact HB.out)) hb);have n2_:=Am (hbox);have n3_:=Am ((by rw [hg];exact (bZ (by repeat (first|(with_reducible first|exact HB.out|apply oA|apply pN|apply o1|refine bS ?_ Bg.out)|exact HB.out))):w.heap.size≤Bb));have n4_:=Am ((by rw [hg];exact (bZ (by repeat (first|(with_reducible first|exact HB.out|apply oA|apply pN|apply o1|refine bS ?_ Bg.out)|exact HB.out))):w.heap.size≤Bb));have n5_:=Am ((nL Ba.out hg));have n6_:=Am ((nG Ba.out hg));clear Ba HB;revert n0_ n1_ n2_ n3_ n4_ n5_ n6_;intro Ba HB Bc Bt Bj Bi Bn;clear hb hbox hg;have DX:=Bi.out;have DY:=Bn.out;have DB:=cz0 Ba.out;have DC:=cz1 Ba.out;have DD:=cz2 Ba.out;have DE:=bF Ba.out 0;have DF:=bF Ba.out 1;have DG:=bF Ba.out 2)|((with_reducible refine gC (f:=16) rfl ?_);refine goesL_ (some 9) rfl rfl Try.func16 (by kernel_rfl) rfl #[.agg #[.slice A0_0 l0_0.length c0_0,.slice A0_1 l0_1.length c0_1,.slice A0_2 l0_2.length c0_2]] rfl (by (try simp only [lM,lC,lN]);first|done|rfl|(simp only [lD,lT];rfl)) ?_;(with_reducible refine (impl_SigsOk.calls k _ _ l0_0 _ _ l0_1 _ _ l0_2 false _ ?side1 ?side2 ?side3 ?side4 ?side5 ?side6 A2.out).mono ?_);(case side1=>exact cL (cB HR0_0.out HB.out));(case side2=>exact HC0_0.out);(case side3=>exact cL (cB HR0_1.out HB.out));(case side4=>exact HC0_1.out);(case side5=>exact cL (cB HR0_2.out HB.out));(case side6=>exact HC0_2.out);rintro e w58 ⟨rfl,hb⟩;refine ⟨_,rfl,?_⟩;have n0_:=Am (bX Ba.out hb);have n1_:=Am (bX Bc.out hb);have n2_:=Am (bP (by repeat (first|(with_reducible first|exact HB.out|apply oA|apply pN|apply o1|refine bS ?_ Bg.out|refine bS ?_ Bj.out)|exact HB.out)) hb);clear Ba Bc HB;revert n0_ n1_ n2_;intro Ba Bc HB;(try clear hb);(try clear hb2);(try clear hk);(try clear hi);have DH:=cz0 Bc.out;have DI:=cz1 Bc.out;have DJ:=cz2 Bc.out;have DK:=bF Bc.out 0;have DL:=bF Bc.out 1;have DM:=bF Bc.out 2))
  refine bodyPost_ret (results_list (rs:=[.cell 2 26,.tmp 3,.tmp 4,.tmp 5]) rfl (by simp) (.cell Bb 26 #[.slice none 0 0,.slice none 0 0,.slice none 0 0] (0,0) _ rfl (by (with_reducible repeat (first|refine bN ?_ _|refine bD ?_|refine bA ?_ _));refine bT (cs:=#[.slice none 0 0,.slice none 0 0,.slice none 0 0]) ?_ 2 _ rfl;(with_reducible repeat (first|refine bN ?_ _|refine bD ?_|refine bA ?_ _));refine bT (cs:=#[.slice none 0 0,.slice none 0 0,.slice none 0 0]) ?_ 1 _ rfl;(with_reducible repeat (first|refine bN ?_ _|refine bD ?_|refine bA ?_ _));refine bT (cs:=#[.slice none 0 0,.slice none 0 0,.slice none 0 0]) ?_ 0 _ rfl;(with_reducible repeat (first|refine bN ?_ _|refine bD ?_|refine bA ?_ _));exact Bc.out) Try.underlying26 rfl (by kernel_rfl) (.tmp (.tmp (.tmp .nil))))) rfl ?_
  exact ⟨_,_,_,by first|rfl|(simp [errW_none,errW_some] <;> rfl)|(simp [*,errW_none,errW_some] <;> rfl),by first|exact Kd.R_nil _ _ _ _ _|exact Kd.N_nil _ _ _ _ _|exact Kd.V_nil _ _ _ _ _|exact Kd.Q_nil _ _ _ _ _|exact Kd.S_nil _ _ _ _ _,by first|exact Kd.R_nil _ _ _ _ _|exact Kd.N_nil _ _ _ _ _|exact Kd.V_nil _ _ _ _ _|exact Kd.Q_nil _ _ _ _ _|exact Kd.S_nil _ _ _ _ _,by first|exact Kd.R_nil _ _ _ _ _|exact Kd.N_nil _ _ _ _ _|exact Kd.V_nil _ _ _ _ _|exact Kd.Q_nil _ _ _ _ _|exact Kd.S_nil _ _ _ _ _,by repeat (first|(with_reducible first|exact HB.out|apply oA|apply pN|apply o1|refine bS ?_ Bg.out|refine bS ?_ Bj.out)|exact HB.out)⟩

 subst c3
 have H1:((impl_Sigs_clone.f l0_0 l0_1 l0_2).bind fun bt143=>((impl_Sigs_first.f k l0_0 l0_1 l0_2).bind fun t153=>(if t153=0 then (some (bt143.1,bt143.2.1,bt143.2.2,0,1,false)) else (if 0≤(wrap64 (t153 - 1)) then (if (wrap64 (t153 - 1))<(bt143.1.length:Int) then ((impl_Sigs_does.f k l0_0 l0_1 l0_2 t153).bind fun t155=>(some ((bt143.1.set ((wrap64 (t153 - 1)):Int).toNat false),bt143.2.1,bt143.2.2,t153,t155,true))) else (none)) else (none)))))=some (r1,r2,r3,r4,r5,r6):=by rw [if_pos rfl] at H;exact H
 clear H
 have H:=H1
 clear H1
 replace H:=oC H
 obtain ⟨⟨t143,t146,t149⟩,A40,H⟩:=H
 replace H:((impl_Sigs_first.f k l0_0 l0_1 l0_2).bind fun t153=>(if t153=0 then (some (t143,t146,t149,0,1,false)) else (if 0≤(wrap64 (t153 - 1)) then (if (wrap64 (t153 - 1))<(t143.length:Int) then ((impl_Sigs_does.f k l0_0 l0_1 l0_2 t153).bind fun t155=>(some ((t143.set ((wrap64 (t153 - 1)):Int).toNat false),t146,t149,t153,t155,true))) else (none)) else (none))))=some (r1,r2,r3,r4,r5,r6):=H
 have A4:=Am A40
 clear A40
 replace H:=oC H
 obtain ⟨t153,A50,H⟩:=H
 replace H:(if t153=0 then (some (t143,t146,t149,0,1,false)) else (if 0≤(wrap64 (t153 - 1)) then (if (wrap64 (t153 - 1))<(t143.length:Int) then ((impl_Sigs_does.f k l0_0 l0_1 l0_2 t153).bind fun t155=>(some ((t143.set ((wrap64 (t153 - 1)):Int).toNat false),t146,t149,t153,t155,true))) else (none)) else (none)))=some (r1,r2,r3,r4,r5,r6):=H
 have A5:=Am A50
 clear A50
 by_cases c6:t153=0
 ·rw [if_pos c6] at H
  have c6b0:(t153 == 0)=true:=beq_iff_eq.mpr c6
  have c6b1:(t153 != 0)=false:=bne_eq_false_iff_eq.mpr c6
  clear c6
  simp only [Option.some.injEq,Prod.mk.injEq] at H
  obtain ⟨rfl,rfl,rfl,rfl,rfl,rfl⟩:=H
  go_enter Try.func13,Try.ntmps13
  go_wp2_with (first|((with_reducible refine gD (N:=1) rfl ?_);refine bI ?hg (N:=1) ?hd (cs:=#[.slice A0_0 l0_0.length c0_0,.slice A0_1 l0_1.length c0_1,.slice A0_2 l0_2.length c0_2]) (t:=26) ?hr ?_;(case hd=>rfl);(case hg=>rfl);(case hr=>first|(go_simp;done)|(go_simp;rfl));intro Bd hg w7 hbox hb;have n0_:=Am (bP (by repeat (first|(with_reducible first|exact HB.out|apply oA|apply pN|apply o1)|exact HB.out)) hb);have n1_:=Am (hbox);have n2_:=Am ((by rw [hg];exact (bZ (by repeat (first|(with_reducible first|exact HB.out|apply oA|apply pN|apply o1)|exact HB.out))):w.heap.size≤Bd));have n3_:=Am ((by rw [hg];exact (bZ (by repeat (first|(with_reducible first|exact HB.out|apply oA|apply pN|apply o1)|exact HB.out))):w.heap.size≤Bd));clear HB;revert n0_ n1_ n2_ n3_;intro HB Ba Bs Bg;clear hb hbox hg)|((with_reducible refine gD (N:=2) rfl ?_);refine bI ?hg (N:=2) ?hd (cs:=#[.slice none 0 0,.slice none 0 0,.slice none 0 0]) (t:=26) ?hr ?_;(case hd=>rfl);(case hg=>rfl);(case hr=>first|(go_simp;done)|(go_simp;rfl));intro Bb hg w8 hbox hb;have n0_:=Am (bX Ba.out hb);have n1_:=Am (bP (by repeat (first|(with_reducible first|exact HB.out|apply oA|apply pN|apply o1|refine bS ?_ Bg.out)|exact HB.out)) hb);have n2_:=Am (hbox);have n3_:=Am ((by rw [hg];exact (bZ (by repeat (first|(with_reducible first|exact HB.out|apply oA|apply pN|apply o1|refine bS ?_ Bg.out)|exact HB.out))):w.heap.size≤Bb));have n4_:=Am ((by rw [hg];exact (bZ (by repeat (first|(with_reducible first|exact HB.out|apply oA|apply pN|apply o1|refine bS ?_ Bg.out)|exact HB.out))):w.heap.size≤Bb));have n5_:=Am ((nL Ba.out hg));have n6_:=Am ((nG Ba.out hg));clear Ba HB;revert n0_ n1_ n2_ n3_ n4_ n5_ n6_;intro Ba HB Bc Bt Bj Bi Bn;clear hb hbox hg;have DZ:=Bi.out;have D0:=Bn.out;have Bw:=cz0 Ba.out;have Bx:=cz1 Ba.out;have By:=cz2 Ba.out;have Bz:=bF Ba.out 0;have BA:=bF Ba.out 1;have BB:=bF Ba.out 2)|((with_reducible refine gC (f:=16) rfl ?_);refine goesL_ (some 9) rfl rfl Try.func16 (by kernel_rfl) rfl #[.agg #[.slice A0_0 l0_0.length c0_0,.slice A0_1 l0_1.length c0_1,.slice A0_2 l0_2.length c0_2]] rfl (by (try simp only [lM,lC,lN]);first|done|rfl|(simp only [lD,lT];rfl)) ?_;(with_reducible refine (impl_SigsOk.calls k _ _ l0_0 _ _ l0_1 _ _ l0_2 true _ ?side1 ?side2 ?side3 ?side4 ?side5 ?side6 A2.out).mono ?_);(case side1=>exact cL (cB HR0_0.out HB.out));(case side2=>exact HC0_0.out);(case side3=>exact cL (cB HR0_1.out HB.out));(case side4=>exact HC0_1.out);(case side5=>exact cL (cB HR0_2.out HB.out));(case side6=>exact HC0_2.out);rintro e w11 ⟨rfl,hb⟩;refine ⟨_,rfl,?_⟩;have n0_:=Am (bX Ba.out hb);have n1_:=Am (bX Bc.out hb);have n2_:=Am (bP (by repeat (first|(with_reducible first|exact HB.out|apply oA|apply pN|apply o1|refine bS ?_ Bg.out|refine bS ?_ Bj.out)|exact HB.out)) hb);clear Ba Bc HB;revert n0_ n1_ n2_;intro Ba Bc HB;(try clear hb);(try clear hb2);(try clear hk);(try clear hi);have BC:=cz0 Ba.out;have BD:=cz1 Ba.out;have BE:=cz2 Ba.out;have BF:=bF Ba.out 0;have BG:=bF Ba.out 1;have BH:=bF Ba.out 2)|((with_reducible refine gC (f:=37) rfl ?_);refine goesL_ (some 13) rfl rfl Try.func37 (by kernel_rfl) rfl #[.agg #[.slice A0_0 l0_0.length c0_0,.slice A0_1 l0_1.length c0_1,.slice A0_2 l0_2.length c0_2]] rfl (by (try simp only [lM,lC,lN]);first|done|rfl|(simp only [lD,lT];rfl)) ?_;(with_reducible refine (impl_Sigs_clone.calls _ _ l0_0 _ _ l0_1 _ _ l0_2 t143 t146 t149 _ ?side1 ?side2 ?side3 ?side4 ?side5 ?side6 A4.out).mono ?_);(case side1=>exact cL (cB HR0_0.out HB.out));(case side2=>exact HC0_0.out);(case side3=>exact cL (cB HR0_1.out HB.out));(case side4=>exact HC0_1.out);(case side5=>exact cL (cB HR0_2.out HB.out));(case side6=>exact HC0_2.out);rintro e w13 ⟨v144,v147,v150,rfl,ho0,ho1,ho2,hb⟩;refine ⟨_,rfl,?_⟩;have n0_:=Am (rW ho0 (bZ (by repeat (first|(with_reducible first|exact HB.out|apply oA|apply pN|apply o1|refine bS ?_ Bg.out|refine bS ?_ Bj.out)|exact HB.out))));have n1_:=Am (rW ho1 (bZ (by repeat (first|(with_reducible first|exact HB.out|apply oA|apply pN|apply o1|refine bS ?_ Bg.out|refine bS ?_ Bj.out)|exact HB.out))));have n2_:=Am (rW ho2 (bZ (by repeat (first|(with_reducible first|exact HB.out|apply oA|apply pN|apply o1|refine bS ?_ Bg.out|refine bS ?_ Bj.out)|exact HB.out))));have n3_:=Am (bX Ba.out hb);have n4_:=Am (bX Bc.out hb);have n5_:=Am (bP (by repeat (first|(with_reducible first|exact HB.out|apply oA|apply pN|apply o1|refine bS ?_ Bg.out|refine bS ?_ Bj.out)|exact HB.out)) hb);clear Ba Bc HB;revert n0_ n1_ n2_ n3_ n4_ n5_;intro Bh Bl Bm Ba Bc HB;(try clear hb);(try clear hb2);(try clear hk);(try clear hi);(try clear ho0);(try clear ho1);(try clear ho2))|((with_reducible refine gD (N:=6) rfl ?_);refine bI ?hg (N:=6) ?hd (cs:=#[.slice none 0 0,.slice none 0 0,.slice none 0 0]) (t:=26) ?hr ?_;(case hd=>rfl);(case hg=>rfl);(case hr=>first|(go_simp;done)|(go_simp;rfl));intro Bf hg w14 hbox hb;have n0_:=Am (rB (rL Bh.out) hb);have n1_:=Am (rB (rL Bl.out) hb);have n2_:=Am (rB (rL Bm.out) hb);have n3_:=Am (bX Ba.out hb);have n4_:=Am (bX Bc.out hb);have n5_:=Am (bP (by repeat (first|(with_reducible first|exact HB.out|apply oA|apply pN|apply o1|refine bS ?_ Bg.out|refine bS ?_ Bj.out)|exact HB.out)) hb);have n6_:=Am (hbox);have n7_:=Am ((by rw [hg];exact (bZ (by repeat (first|(with_reducible first|exact HB.out|apply oA|apply pN|apply o1|refine bS ?_ Bg.out|refine bS ?_ Bj.out)|exact HB.out))):w.heap.size≤Bf));have n8_:=Am ((by rw [hg];exact (bZ (by repeat (first|(with_reducible first|exact HB.out|apply oA|apply pN|apply o1|refine bS ?_ Bg.out|refine bS ?_ Bj.out)|exact HB.out))):w.heap.size≤Bf));have n9_:=Am ((nL Ba.out hg));have n10_:=Am ((nG Ba.out hg));have n11_:=Am ((nL Bc.out hg));have n12_:=Am ((nG Bc.out hg));clear Bh Bl Bm Ba Bc HB;revert n0_ n1_ n2_ n3_ n4_ n5_ n6_ n7_ n8_ n9_ n10_ n11_ n12_;intro Bh Bl Bm Ba Bc HB Be Bv Bp Bq Br Bo Bk;clear hb hbox hg;obtain ⟨Ao15,co15,eo15⟩:=rC Bh.out;subst eo15;have DN:=Br.out;have DO:=Bq.out;have DP:=Bk.out;have DQ:=Bo.out;have BI:=cz0 Be.out;have BJ:=cz1 Be.out;have BK:=cz2 Be.out;have BL:=bF Be.out 0;have BM:=bF Be.out 1;have BN:=bF Be.out 2;obtain ⟨Ao19,co19,eo19⟩:=rC Bl.out;subst eo19;obtain ⟨Ao20,co20,eo20⟩:=rC Bm.out;subst eo20;have BO:=cz0 Ba.out;have BP:=cz1 Ba.out;have BQ:=cz2 Ba.out;have BR:=bF Ba.out 0;have BS:=bF Ba.out 1;have BT:=bF Ba.out 2)|((with_reducible refine gC (f:=38) rfl ?_);refine goesL_ (some 15) rfl rfl Try.func38 (by kernel_rfl) rfl #[.agg #[.slice A0_0 l0_0.length c0_0,.slice A0_1 l0_1.length c0_1,.slice A0_2 l0_2.length c0_2],.func (.func 39) #[] #[]] rfl (by (try simp only [lM,lC,lN]);first|done|rfl|(simp only [lD,lT];rfl)) ?_;(with_reducible refine (impl_Sigs_first.calls k _ _ l0_0 _ _ l0_1 _ _ l0_2 t153 _ ?side1 ?side2 ?side3 ?side4 ?side5 ?side6 A5.out).mono ?_);(case side1=>exact cB HR0_0.out (by repeat (first|(with_reducible first|exact HB.out|apply oA|apply pN|apply o1|refine bS ?_ Bg.out|refine bS ?_ Bj.out|refine bS ?_ Bp.out)|exact HB.out)));(case side2=>exact HC0_0.out);(case side3=>exact cB HR0_1.out (by repeat (first|(with_reducible first|exact HB.out|apply oA|apply pN|apply o1|refine bS ?_ Bg.out|refine bS ?_ Bj.out|refine bS ?_ Bp.out)|exact HB.out)));(case side4=>exact HC0_1.out);(case side5=>exact cB HR0_2.out (by repeat (first|(with_reducible first|exact HB.out|apply oA|apply pN|apply o1|refine bS ?_ Bg.out|refine bS ?_ Bj.out|refine bS ?_ Bp.out)|exact HB.out)));(case side6=>exact HC0_2.out);rintro e w22 ⟨rfl,hb⟩;refine ⟨_,rfl,?_⟩;have n0_:=Am (rB (by (with_reducible repeat (first|apply rA|apply rN|apply rD));exact (rM (rF (p:=⟨Bf,2,none⟩) (rF (p:=⟨Bf,1,none⟩) (rF (p:=⟨Bf,0,none⟩) (rT Bh.out Be.out (by decide)) (fun _ hk=>hk.2) (.slice Ao15 t143.length co15)) (fun _ hk=>hk.2) (.slice Ao19 t146.length co19)) (fun _ hk=>hk.2) (.slice Ao20 t149.length co20)) (fun _ h_=>h_.1))) hb);have n1_:=Am (rB (by (with_reducible repeat (first|apply rA|apply rN|apply rD));exact (rM (rF (p:=⟨Bf,2,none⟩) (rF (p:=⟨Bf,1,none⟩) (rF (p:=⟨Bf,0,none⟩) (rT Bl.out Be.out (by decide)) (fun _ hk=>hk.2) (.slice Ao15 t143.length co15)) (fun _ hk=>hk.2) (.slice Ao19 t146.length co19)) (fun _ hk=>hk.2) (.slice Ao20 t149.length co20)) (fun _ h_=>h_.1))) hb);have n2_:=Am (rB (by (with_reducible repeat (first|apply rA|apply rN|apply rD));exact (rM (rF (p:=⟨Bf,2,none⟩) (rF (p:=⟨Bf,1,none⟩) (rF (p:=⟨Bf,0,none⟩) (rT Bm.out Be.out (by decide)) (fun _ hk=>hk.2) (.slice Ao15 t143.length co15)) (fun _ hk=>hk.2) (.slice Ao19 t146.length co19)) (fun _ hk=>hk.2) (.slice Ao20 t149.length co20)) (fun _ h_=>h_.1))) hb);have n3_:=Am (bB (g:=Bd) (o:=.cells #[.slice A0_0 l0_0.length c0_0,.slice A0_1 l0_1.length c0_1,.slice A0_2 l0_2.length c0_2] 26 (0,0)) (by (with_reducible repeat (first|refine bN ?_ _|refine bD ?_|refine bA ?_ _|refine bE ?_ Bq.out _));exact Ba.out) hb);have n4_:=Am (bB (g:=Bb) (o:=.cells #[.slice none 0 0,.slice none 0 0,.slice none 0 0] 26 (0,0)) (by (with_reducible repeat (first|refine bN ?_ _|refine bD ?_|refine bA ?_ _|refine bE ?_ Bo.out _));exact Bc.out) hb);have n5_:=Am (bB (g:=Bf) (o:=.cells #[.slice Ao15 t143.length co15,.slice Ao19 t146.length co19,.slice Ao20 t149.length co20] 26 (0,0)) (by (with_reducible repeat (first|refine bN ?_ _|refine bD ?_|refine bA ?_ _));refine bT (cs:=#[.slice Ao15 t143.length co15,.slice Ao19 t146.length co19,.slice none 0 0]) ?_ 2 _ rfl;(with_reducible repeat (first|refine bN ?_ _|refine bD ?_|refine bA ?_ _));refine bT (cs:=#[.slice Ao15 t143.length co15,.slice none 0 0,.slice none 0 0]) ?_ 1 _ rfl;(with_reducible repeat (first|refine bN ?_ _|refine bD ?_|refine bA ?_ _));refine bT (cs:=#[.slice none 0 0,.slice none 0 0,.slice none 0 0]) ?_ 0 _ rfl;(with_reducible repeat (first|refine bN ?_ _|refine bD ?_|refine bA ?_ _));exact Be.out) hb);have n6_:=Am (bP (by repeat (first|(with_reducible first|exact HB.out|apply oA|apply pN|apply o1|refine bS ?_ Bg.out|refine bS ?_ Bj.out|refine bS ?_ Bp.out)|exact HB.out)) hb);clear Bh Bl Bm Ba Bc Be HB;revert n0_ n1_ n2_ n3_ n4_ n5_ n6_;intro Bh Bl Bm Ba Bc Be HB;(try clear hb);(try clear hb2);(try clear hk);(try clear hi);have BU:=cz0 Be.out;have BV:=cz1 Be.out;have BW:=cz2 Be.out;have BX:=bF Be.out 0;have BY:=bF Be.out 1;have BZ:=bF Be.out 2;have B0:=cz0 Bc.out;have B1:=cz1 Bc.out;have B2:=cz2 Bc.out;have B3:=bF Bc.out 0;have B4:=bF Bc.out 1;have B5:=bF Bc.out 2))
  refine bodyPost_ret (results_list (rs:=[.cell 2 26,.tmp 3,.tmp 4,.tmp 5]) rfl (by simp) (.cell Bb 26 #[.slice Ao15 t143.length co15,.slice Ao19 t146.length co19,.slice Ao20 t149.length co20] (0,0) _ rfl (by (with_reducible repeat (first|refine bN ?_ _|refine bD ?_|refine bA ?_ _));refine bT (cs:=#[.slice Ao15 t143.length co15,.slice Ao19 t146.length co19,.slice none 0 0]) ?_ 2 _ rfl;(with_reducible repeat (first|refine bN ?_ _|refine bD ?_|refine bA ?_ _));refine bT (cs:=#[.slice Ao15 t143.length co15,.slice none 0 0,.slice none 0 0]) ?_ 1 _ rfl;(with_reducible repeat (first|refine bN ?_ _|refine bD ?_|refine bA ?_ _));refine bT (cs:=#[.slice none 0 0,.slice none 0 0,.slice none 0 0]) ?_ 0 _ rfl;(with_reducible repeat (first|refine bN ?_ _|refine bD ?_|refine bA ?_ _));exact Bc.out) Try.underlying26 rfl (by kernel_rfl) (.tmp (.tmp (.tmp .nil))))) rfl ?_
  exact ⟨_,_,_,by first|rfl|(simp [errW_none,errW_some] <;> rfl)|(simp [*,errW_none,errW_some] <;> rfl),by (with_reducible repeat (first|apply rA|apply rN|apply rD));exact rM (rF (p:=⟨Bb,2,none⟩) (rF (p:=⟨Bb,1,none⟩) (rF (p:=⟨Bb,0,none⟩) (rT Bh.out Bc.out (by decide)) (fun _ hk=>hk.2) (.slice Ao15 t143.length co15)) (fun _ hk=>hk.2) (.slice Ao19 t146.length co19)) (fun _ hk=>hk.2) (.slice Ao20 t149.length co20)) (fun _ hk=>hk.1),by (with_reducible repeat (first|apply rA|apply rN|apply rD));exact rM (rF (p:=⟨Bb,2,none⟩) (rF (p:=⟨Bb,1,none⟩) (rF (p:=⟨Bb,0,none⟩) (rT Bl.out Bc.out (by decide)) (fun _ hk=>hk.2) (.slice Ao15 t143.length co15)) (fun _ hk=>hk.2) (.slice Ao19 t146.length co19)) (fun _ hk=>hk.2) (.slice Ao20 t149.length co20)) (fun _ hk=>hk.1),by (with_reducible repeat (first|apply rA|apply rN|apply rD));exact rM (rF (p:=⟨Bb,2,none⟩) (rF (p:=⟨Bb,1,none⟩) (rF (p:=⟨Bb,0,none⟩) (rT Bm.out Bc.out (by decide)) (fun _ hk=>hk.2) (.slice Ao15 t143.length co15)) (fun _ hk=>hk.2) (.slice Ao19 t146.length co19)) (fun _ hk=>hk.2) (.slice Ao20 t149.length co20)) (fun _ hk=>trivial),by repeat (first|(with_reducible first|exact HB.out|apply oA|apply pN|apply o1|refine bS ?_ Bg.out|refine bS ?_ Bj.out|refine bS ?_ Bp.out)|exact HB.out)⟩
 rw [if_neg c6] at H
 have c6b0:(t153 == 0)=false:=beq_eq_false_iff_ne.mpr c6
 have c6b1:(t153 != 0)=true:=bne_iff_ne.mpr c6
 obtain ⟨ji25,hji25⟩:∃ j_:Int,(wrap64 (t153 - 1))=j_:=⟨_,rfl⟩
 replace H:(if 0≤(ji25) then (if (ji25)<(t143.length:Int) then ((impl_Sigs_does.f k l0_0 l0_1 l0_2 t153).bind fun t155=>(some ((t143.set ((ji25):Int).toNat false),t146,t149,t153,t155,true))) else (none)) else (none))=some (r1,r2,r3,r4,r5,r6):=by first|(rw [hji25] at H;exact H)|(simp only [hji25] at H ⊢;exact H)
 (try rw [hji25] at A2)
 (try rw [hji25] at A4)
 (try rw [hji25] at A5)
 have hji25w:(IntKind.i64.wrap (t153 - 1))=ji25:=(i64_w _).trans hji25
 by_cases c26:0≤(ji25)
 rotate_left
 ·rw [if_neg c26] at H
  exact absurd H (by simp)
 rw [if_pos c26] at H
 have c26b0:decide (0≤(ji25))=true:=dT c26
 clear c26
 by_cases c27:(ji25)<(t143.length:Int)
 rotate_left
 ·rw [if_neg c27] at H
  exact absurd H (by simp)
 rw [if_pos c27] at H
 have c27b0:decide ((ji25)<(t143.length:Int))=true:=dT c27
 clear c27
 obtain ⟨y154,hy154⟩:∃ y_:List Bool,y_=(t143.set ((ji25):Int).toNat false):=⟨_,rfl⟩
 replace H:((impl_Sigs_does.f k l0_0 l0_1 l0_2 t153).bind fun t155=>(some (y154,t146,t149,t153,t155,true)))=some (r1,r2,r3,r4,r5,r6):=by first|(rw [hy154];with_reducible exact H)|(have H2_:=(Option.bind_some _ _).symm.trans H;rw [hy154];with_reducible exact H2_)|(have H2_:=(Option.bind_some _ _).symm.trans H;with_reducible exact H2_)|with_reducible exact H|(rw [hy154];exact H)|exact H
 have Ny154:=Am hy154
 clear hy154
 replace H:=oC H
 obtain ⟨t155,A290,H⟩:=H
 replace H:(some (y154,t146,t149,t153,t155,true))=some (r1,r2,r3,r4,r5,r6):=H
 have A29:=Am A290
 clear A290
 simp only [Option.some.injEq,Prod.mk.injEq] at H
 obtain ⟨rfl,rfl,rfl,rfl,rfl,rfl⟩:=H
 go_enter Try.func13,Try.ntmps13
 try go_wp2_with (first|((with_reducible refine gD (N:=1) rfl ?_);refine bI ?hg (N:=1) ?hd (cs:=#[.slice A0_0 l0_0.length c0_0,.slice A0_1 l0_1.length c0_1,.slice A0_2 l0_2.length c0_2]) (t:=26) ?hr ?_;(case hd=>rfl);(case hg=>rfl);(case hr=>first|(go_simp;done)|(go_simp;rfl));intro Bd hg w30 hbox hb;have n0_:=Am (bP (by repeat (first|(with_reducible first|exact HB.out|apply oA|apply pN|apply o1)|exact HB.out)) hb);have n1_:=Am (hbox);have n2_:=Am ((by rw [hg];exact (bZ (by repeat (first|(with_reducible first|exact HB.out|apply oA|apply pN|apply o1)|exact HB.out))):w.heap.size≤Bd));have n3_:=Am ((by rw [hg];exact (bZ (by repeat (first|(with_reducible first|exact HB.out|apply oA|apply pN|apply o1)|exact HB.out))):w.heap.size≤Bd));clear HB;revert n0_ n1_ n2_ n3_;intro HB Ba Bs Bg;clear hb hbox hg)|((with_reducible refine gD (N:=2) rfl ?_);refine bI ?hg (N:=2) ?hd (cs:=#[.slice none 0 0,.slice none 0 0,.slice none 0 0]) (t:=26) ?hr ?_;(case hd=>rfl);(case hg=>rfl);(case hr=>first|(go_simp;done)|(go_simp;rfl));intro Bb hg w31 hbox hb;have n0_:=Am (bX Ba.out hb);have n1_:=Am (bP (by repeat (first|(with_reducible first|exact HB.out|apply oA|apply pN|apply o1|refine bS ?_ Bg.out)|exact HB.out)) hb);have n2_:=Am (hbox);have n3_:=Am ((by rw [hg];exact (bZ (by repeat (first|(with_reducible first|exact HB.out|apply oA|apply pN|apply o1|refine bS ?_ Bg.out)|exact HB.out))):w.heap.size≤Bb));have n4_:=Am ((by rw [hg];exact (bZ (by repeat (first|(with_reducible first|exact HB.out|apply oA|apply pN|apply o1|refine bS ?_ Bg.out)|exact HB.out))):w.heap.size≤Bb));have n5_:=Am ((nL Ba.out hg));have n6_:=Am ((nG Ba.out hg));clear Ba HB;revert n0_ n1_ n2_ n3_ n4_ n5_ n6_;intro Ba HB Bc Bt Bj Bi Bn;clear hb hbox hg;have DR:=Bi.out;have DS:=Bn.out;have B6:=cz0 Ba.out;have B7:=cz1 Ba.out;have B9:=cz2 Ba.out;have Da:=bF Ba.out 0;have Db:=bF Ba.out 1;have Dc:=bF Ba.out 2)|((with_reducible refine gC (f:=16) rfl ?_);refine goesL_ (some 9) rfl rfl Try.func16 (by kernel_rfl) rfl #[.agg #[.slice A0_0 l0_0.length c0_0,.slice A0_1 l0_1.length c0_1,.slice A0_2 l0_2.length c0_2]] rfl (by (try simp only [lM,lC,lN]);first|done|rfl|(simp only [lD,lT];rfl)) ?_;(with_reducible refine (impl_SigsOk.calls k _ _ l0_0 _ _ l0_1 _ _ l0_2 true _ ?side1 ?side2 ?side3 ?side4 ?side5 ?side6 A2.out).mono ?_);(case side1=>exact cL (cB HR0_0.out HB.out));(case side2=>exact HC0_0.out);(case side3=>exact cL (cB HR0_1.out HB.out));(case side4=>exact HC0_1.out);(case side5=>exact cL (cB HR0_2.out HB.out));(case side6=>exact HC0_2.out);rintro e w34 ⟨rfl,hb⟩;refine ⟨_,rfl,?_⟩;have n0_:=Am (bX Ba.out hb);have n1_:=Am (bX Bc.out hb);have n2_:=Am (bP (by repeat (first|(with_reducible first|exact HB.out|apply oA|apply pN|apply o1|refine bS ?_ Bg.out|refine bS ?_ Bj.out)|exact HB.out)) hb);clear Ba Bc HB;revert n0_ n1_ n2_;intro Ba Bc HB;(try clear hb);(try clear hb2);(try clear hk);(try clear hi);have Dd:=cz0 Ba.out;have De:=cz1 Ba.out;have Df:=cz2 Ba.out;have Dg:=bF Ba.out 0;have Dh:=bF Ba.out 1;have Di:=bF Ba.out 2)|((with_reducible refine gC (f:=37) rfl ?_);refine goesL_ (some 13) rfl rfl Try.func37 (by kernel_rfl) rfl #[.agg #[.slice A0_0 l0_0.length c0_0,.slice A0_1 l0_1.length c0_1,.slice A0_2 l0_2.length c0_2]] rfl (by (try simp only [lM,lC,lN]);first|done|rfl|(simp only [lD,lT];rfl)) ?_;(with_reducible refine (impl_Sigs_clone.calls _ _ l0_0 _ _ l0_1 _ _ l0_2 t143 t146 t149 _ ?side1 ?side2 ?side3 ?side4 ?side5 ?side6 A4.out).mono ?_);(case side1=>exact cL (cB HR0_0.out HB.out));(case side2=>exact HC0_0.out);(case side3=>exact cL (cB HR0_1.out HB.out));(case side4=>exact HC0_1.out);(case side5=>exact cL (cB HR0_2.out HB.out));(case side6=>exact HC0_2.out);rintro e w36 ⟨v144,v147,v150,rfl,ho0,ho1,ho2,hb⟩;refine ⟨_,rfl,?_⟩;have n0_:=Am (rW ho0 (bZ (by repeat (first|(with_reducible first|exact HB.out|apply oA|apply pN|apply o1|refine bS ?_ Bg.out|refine bS ?_ Bj.out)|exact HB.out))));have n1_:=Am (rW ho1 (bZ (by repeat (first|(with_reducible first|exact HB.out|apply oA|apply pN|apply o1|refine bS ?_ Bg.out|refine bS ?_ Bj.out)|exact HB.out))));have n2_:=Am (rW ho2 (bZ (by repeat (first|(with_reducible first|exact HB.out|apply oA|apply pN|apply o1|refine bS ?_ Bg.out|refine bS ?_ Bj.out)|exact HB.out))));have n3_:=Am (bX Ba.out hb);have n4_:=Am (bX Bc.out hb);have n5_:=Am (bP (by repeat (first|(with_reducible first|exact HB.out|apply oA|apply pN|apply o1|refine bS ?_ Bg.out|refine bS ?_ Bj.out)|exact HB.out)) hb);clear Ba Bc HB;revert n0_ n1_ n2_ n3_ n4_ n5_;intro Bh Bl Bm Ba Bc HB;(try clear hb);(try clear hb2);(try clear hk);(try clear hi);(try clear ho0);(try clear ho1);(try clear ho2))|((with_reducible refine gD (N:=6) rfl ?_);refine bI ?hg (N:=6) ?hd (cs:=#[.slice none 0 0,.slice none 0 0,.slice none 0 0]) (t:=26) ?hr ?_;(case hd=>rfl);(case hg=>rfl);(case hr=>first|(go_simp;done)|(go_simp;rfl));intro Bf hg w37 hbox hb;have n0_:=Am (rB (rL Bh.out) hb);have n1_:=Am (rB (rL Bl.out) hb);have n2_:=Am (rB (rL Bm.out) hb);have n3_:=Am (bX Ba.out hb);have n4_:=Am (bX Bc.out hb);have n5_:=Am (bP (by repeat (first|(with_reducible first|exact HB.out|apply oA|apply pN|apply o1|refine bS ?_ Bg.out|refine bS ?_ Bj.out)|exact HB.out)) hb);have n6_:=Am (hbox);have n7_:=Am ((by rw [hg];exact (bZ (by repeat (first|(with_reducible first|exact HB.out|apply oA|apply pN|apply o1|refine bS ?_ Bg.out|refine bS ?_ Bj.out)|exact HB.out))):w.heap.size≤Bf));have n8_:=Am ((by rw [hg];exact (bZ (by repeat (first|(with_reducible first|exact HB.out|apply oA|apply pN|apply o1|refine bS ?_ Bg.out|refine bS ?_ Bj.out)|exact HB.out))):w.heap.size≤Bf));have n9_:=Am ((nL Ba.out hg));have n10_:=Am ((nG Ba.out hg));have n11_:=Am ((nL Bc.out hg));have n12_:=Am ((nG Bc.out hg));clear Bh Bl Bm Ba Bc HB;revert n0_ n1_ n2_ n3_ n4_ n5_ n6_ n7_ n8_ n9_ n10_ n11_ n12_;intro Bh Bl Bm Ba Bc HB Be Bv Bp Bq Br Bo Bk;clear hb hbox hg;obtain ⟨Ao38,co38,eo38⟩:=rC Bh.out;subst eo38;have DT:=Br.out;have DU:=Bq.out;have DV:=Bk.out;have DW:=Bo.out;have Dj:=cz0 Be.out;have Dk:=cz1 Be.out;have Dl:=cz2 Be.out;have Dm:=bF Be.out 0;have Dn:=bF Be.out 1;have Do:=bF Be.out 2;obtain ⟨Ao42,co42,eo42⟩:=rC Bl.out;subst eo42;obtain ⟨Ao43,co43,eo43⟩:=rC Bm.out;subst eo43;have Dp:=cz0 Ba.out;have Dq:=cz1 Ba.out;have Dr:=cz2 Ba.out;have Ds:=bF Ba.out 0;have Dt:=bF Ba.out 1;have Du:=bF Ba.out 2)|((with_reducible refine gC (f:=38) rfl ?_);refine goesL_ (some 15) rfl rfl Try.func38 (by kernel_rfl) rfl #[.agg #[.slice A0_0 l0_0.length c0_0,.slice A0_1 l0_1.length c0_1,.slice A0_2 l0_2.length c0_2],.func (.func 39) #[] #[]] rfl (by (try simp only [lM,lC,lN]);first|done|rfl|(simp only [lD,lT];rfl)) ?_;(with_reducible refine (impl_Sigs_first.calls k _ _ l0_0 _ _ l0_1 _ _ l0_2 t153 _ ?side1 ?side2 ?side3 ?side4 ?side5 ?side6 A5.out).mono ?_);(case side1=>exact cB HR0_0.out (by repeat (first|(with_reducible first|exact HB.out|apply oA|apply pN|apply o1|refine bS ?_ Bg.out|refine bS ?_ Bj.out|refine bS ?_ Bp.out)|exact HB.out)));(case side2=>exact HC0_0.out);(case side3=>exact cB HR0_1.out (by repeat (first|(with_reducible first|exact HB.out|apply oA|apply pN|apply o1|refine bS ?_ Bg.out|refine bS ?_ Bj.out|refine bS ?_ Bp.out)|exact HB.out)));(case side4=>exact HC0_1.out);(case side5=>exact cB HR0_2.out (by repeat (first|(with_reducible first|exact HB.out|apply oA|apply pN|apply o1|refine bS ?_ Bg.out|refine bS ?_ Bj.out|refine bS ?_ Bp.out)|exact HB.out)));(case side6=>exact HC0_2.out);rintro e w45 ⟨rfl,hb⟩;refine ⟨_,rfl,?_⟩;have n0_:=Am (rB (by (with_reducible repeat (first|apply rA|apply rN|apply rD));exact (rM (rF (p:=⟨Bf,2,none⟩) (rF (p:=⟨Bf,1,none⟩) (rF (p:=⟨Bf,0,none⟩) (rT Bh.out Be.out (by decide)) (fun _ hk=>hk.2) (.slice Ao38 t143.length co38)) (fun _ hk=>hk.2) (.slice Ao42 t146.length co42)) (fun _ hk=>hk.2) (.slice Ao43 t149.length co43)) (fun _ h_=>h_.1))) hb);have n1_:=Am (rB (by (with_reducible repeat (first|apply rA|apply rN|apply rD));exact (rM (rF (p:=⟨Bf,2,none⟩) (rF (p:=⟨Bf,1,none⟩) (rF (p:=⟨Bf,0,none⟩) (rT Bl.out Be.out (by decide)) (fun _ hk=>hk.2) (.slice Ao38 t143.length co38)) (fun _ hk=>hk.2) (.slice Ao42 t146.length co42)) (fun _ hk=>hk.2) (.slice Ao43 t149.length co43)) (fun _ h_=>h_.1))) hb);have n2_:=Am (rB (by (with_reducible repeat (first|apply rA|apply rN|apply rD));exact (rM (rF (p:=⟨Bf,2,none⟩) (rF (p:=⟨Bf,1,none⟩) (rF (p:=⟨Bf,0,none⟩) (rT Bm.out Be.out (by decide)) (fun _ hk=>hk.2) (.slice Ao38 t143.length co38)) (fun _ hk=>hk.2) (.slice Ao42 t146.length co42)) (fun _ hk=>hk.2) (.slice Ao43 t149.length co43)) (fun _ h_=>h_.1))) hb);have n3_:=Am (bB (g:=Bd) (o:=.cells #[.slice A0_0 l0_0.length c0_0,.slice A0_1 l0_1.length c0_1,.slice A0_2 l0_2.length c0_2] 26 (0,0)) (by (with_reducible repeat (first|refine bN ?_ _|refine bD ?_|refine bA ?_ _|refine bE ?_ Bq.out _));exact Ba.out) hb);have n4_:=Am (bB (g:=Bb) (o:=.cells #[.slice none 0 0,.slice none 0 0,.slice none 0 0] 26 (0,0)) (by (with_reducible repeat (first|refine bN ?_ _|refine bD ?_|refine bA ?_ _|refine bE ?_ Bo.out _));exact Bc.out) hb);have n5_:=Am (bB (g:=Bf) (o:=.cells #[.slice Ao38 t143.length co38,.slice Ao42 t146.length co42,.slice Ao43 t149.length co43] 26 (0,0)) (by (with_reducible repeat (first|refine bN ?_ _|refine bD ?_|refine bA ?_ _));refine bT (cs:=#[.slice Ao38 t143.length co38,.slice Ao42 t146.length co42,.slice none 0 0]) ?_ 2 _ rfl;(with_reducible repeat (first|refine bN ?_ _|refine bD ?_|refine bA ?_ _));refine bT (cs:=#[.slice Ao38 t143.length co38,.slice none 0 0,.slice none 0 0]) ?_ 1 _ rfl;(with_reducible repeat (first|refine bN ?_ _|refine bD ?_|refine bA ?_ _));refine bT (cs:=#[.slice none 0 0,.slice none 0 0,.slice none 0 0]) ?_ 0 _ rfl;(with_reducible repeat (first|refine bN ?_ _|refine bD ?_|refine bA ?_ _));exact Be.out) hb);have n6_:=Am (bP (by repeat (first|(with_reducible first|exact HB.out|apply oA|apply pN|apply o1|refine bS ?_ Bg.out|refine bS ?_ Bj.out|refine bS ?_ Bp.out)|exact HB.out)) hb);clear Bh Bl Bm Ba Bc Be HB;revert n0_ n1_ n2_ n3_ n4_ n5_ n6_;intro Bh Bl Bm Ba Bc Be HB;(try clear hb);(try clear hb2);(try clear hk);(try clear hi);have Dv:=cz0 Be.out;have Dw:=cz1 Be.out;have Dx:=cz2 Be.out;have Dy:=bF Be.out 0;have Dz:=bF Be.out 1;have DA:=bF Be.out 2;have p28:0≤((ji25):Int):=oE (by first|(with_reducible assumption)|assumption);have q28:((ji25):Int)<((t143.length:Int):Int):=oE (by first|(with_reducible assumption)|assumption);obtain ⟨go28,co28,eo28,Bu,gl28,cl28,HG28⟩:=Kd.R_form Bh.out (by omega);(first|cases eo28|(injection eo28 with ea_ en_ ec_;(first|subst ea_|(injection ea_ with ea_;subst ea_));subst ec_;clear en_));have GB28:=Am Bu;have GG28:=Am HG28;clear Bu gl28 HG28;obtain ⟨hx28_0,hf28_0⟩:=Kd.R_celln false Bh.out ((ji25):Int) p28 q28;replace p28:=eq_true p28;replace q28:=eq_true q28;obtain ⟨hy47_,hz47_⟩:=Kd.R_celln false Bh.out ((ji25):Int) (oE (by first|(with_reducible assumption)|assumption)) (oE (by first|(with_reducible assumption)|assumption));have HP47:=Kd.R_putg Bh.out ((ji25):Int) false)|((with_reducible refine gS (t:=4) (p:=23) rfl ?_);refine sE (t:=4) (p:=23) (v:=?vo_w48) (w1:=(w45.setCell ⟨go28,((ji25):Int).toNat,none⟩ (.bool false))) ?hg ?ho ?hn ?hr ?_;(case ho=>rfl);(case hg=>rfl);(case hn=>rfl);(case hr=>first|(go_simp;done)|(go_simp;rfl));intro w48 hw;have hg:w45.grownBy w48 (some go28):=(by rw [hw];exact HP47.2);have hp_:Kd.R Kd.bool 4 w48 w.heap.size (fun k_=>some k_≠(.slice Ao42 t146.length co42:Value).ownBlock) (.slice (some ⟨go28,0,none⟩) t143.length co38) y154:=(by rw [hw,Ny154.out];exact HP47.1);clear HP47;have n0_:=Am (bG (g:=Bd) (o:=.cells #[.slice A0_0 l0_0.length c0_0,.slice A0_1 l0_1.length c0_1,.slice A0_2 l0_2.length c0_2] 26 (0,0)) (bL Ba.out) hg (rE Bh.out Ba.out (by decide)));have n1_:=Am (bG (g:=Bb) (o:=.cells #[.slice none 0 0,.slice none 0 0,.slice none 0 0] 26 (0,0)) (bL Bc.out) hg (rE Bh.out Bc.out (by decide)));have n2_:=Am (hp_);have n3_:=Am (Kd.R_after (v:=(.slice (some ⟨go28,0,none⟩) t143.length co38)) (v1:=(.slice (some ⟨go28,0,none⟩) t143.length co38)) (ok:=(fun _=>True)) (by (with_reducible repeat (first|apply rA|apply rN|apply rD));exact rM Bl.out (fun _ hk=>⟨trivial,hk⟩)) hg (.inl rfl));have n4_:=Am (rO (v:=(.slice (some ⟨go28,0,none⟩) t143.length co38)) (rL Bm.out) (rY Bh.out) (by decide) hg);have n5_:=Am (bG (g:=Bf) (o:=.cells #[.slice (some ⟨go28,0,none⟩) t143.length co38,.slice Ao42 t146.length co42,.slice Ao43 t149.length co43] 26 (0,0)) (bL Be.out) hg (rE Bh.out Be.out (by decide)));have n6_:=Am ((by rw [hw];exact bS (HB.out) GB28.out:Below w.heap.size w w48));clear Ba Bc Bh Bl Bm Be HB;revert n0_ n1_ n2_ n3_ n4_ n5_ n6_;intro Ba Bc Bh Bl Bm Be HB;clear hg hw hp_))
 have n0_:=Am (rD Bh.out)
 have n1_:=Am (rD Bl.out)
 have n2_:=Am (rD Bm.out)
 have n3_:=Am (bD Ba.out)
 have n4_:=Am (bD Bc.out)
 have n5_:=Am (bD Be.out)
 have n6_:=Am (o1 HB.out)
 clear Bh
 clear Bl
 clear Bm
 clear Ba
 clear Bc
 clear Be
 clear HB
 have Bh:=n0_
 have Bl:=n1_
 have Bm:=n2_
 have Ba:=n3_
 have Bc:=n4_
 have Be:=n5_
 have HB:=n6_
 clear n0_ n1_ n2_ n3_ n4_ n5_ n6_
 refine start_ (n:=9) (S:=fun w'=>w'.cell? ⟨Bf,0,none⟩=some (.slice (some ⟨go28,0,none⟩) t143.length co38)∧w'.cell? ⟨Bf,1,none⟩=some (.slice Ao42 t146.length co42)∧w'.cell? ⟨Bf,2,none⟩=some (.slice Ao43 t149.length co43)∧w'.cell? ⟨Bd,0,none⟩=some (.slice A0_0 l0_0.length c0_0)∧w'.cell? ⟨Bd,1,none⟩=some (.slice A0_1 l0_1.length c0_1)∧w'.cell? ⟨Bd,2,none⟩=some (.slice A0_2 l0_2.length c0_2)) (ds:=[]) z13q0 (by kernel_rfl) rfl rfl ⟨(bC Be.out 0).trans rfl,(bC Be.out 1).trans rfl,(bC Be.out 2).trans rfl,(bC Ba.out 0).trans rfl,(bC Ba.out 1).trans rfl,(bC Ba.out 2).trans rfl⟩ (fun hHeld=>?_);refine with_st impl_SigsNext.tab8 impl_SigsNext.bits8 (fun _ _ _ _ _ h=>h) (fun HT_=>?_)
 generalize w48.drew=w49 at Bh Bl Bm Ba Bc Be HB hHeld ⊢
 refine pS 1 25 z13q1 HT_ rfl rfl (by kernel_rfl) (by rfl) (by intro w';go_simp;with_reducible rfl) (by simp only [Act.put,lA,lZ,lS,iw,jw];rfl) ?_
 refine pS 3 27 z13q2 HT_ rfl rfl (by kernel_rfl) (by rfl) (by intro w';go_simp;with_reducible rfl) (by simp only [Act.put,lA,lZ,lS,iw,jw];rfl) ?_
 refine tS 0 24 z13q3 HT_ hHeld rfl rfl (by kernel_rfl) (by rfl) (by rintro w' ⟨s0,s1,s2,s3,s4,s5⟩;go_simp;with_reducible rfl) (by simp only [Act.put,lA,lZ,lS,iw,jw];rfl) ?_
 refine tS 2 26 z13q4 HT_ hHeld rfl rfl (by kernel_rfl) (by rfl) (by rintro w' ⟨s0,s1,s2,s3,s4,s5⟩;go_simp;with_reducible rfl) (by simp only [Act.put,lA,lZ,lS,iw,jw];rfl) ?_
 refine oS 4 28 z13q5 HT_ rfl rfl (by kernel_rfl) (by decide) (fun K hK=>?_)
 refine goes_ Try.func40 (by kernel_rfl) rfl #[.agg #[.slice A0_0 l0_0.length c0_0,.slice A0_1 l0_1.length c0_1,.slice A0_2 l0_2.length c0_2],.int .i64 t153] (by rfl) rfl rfl (by (try simp only [lM,lC,lN]);first|done|rfl|(simp only [lD,lT];rfl)) ?_
 with_reducible refine (impl_Sigs_does.calls k _ _ l0_0 _ _ l0_1 _ _ l0_2 t153 t155 _ ?side1 ?side2 ?side3 ?side4 ?side5 ?side6 A29.out).mono ?_
 (case side1=>exact cL (cB HR0_0.out HB.out))
 (case side2=>exact HC0_0.out)
 (case side3=>exact cL (cB HR0_1.out HB.out))
 (case side4=>exact HC0_1.out)
 (case side5=>exact cL (cB HR0_2.out HB.out))
 (case side6=>exact HC0_2.out)
 rintro e w50 ⟨rfl,hb⟩
 refine ⟨_,rfl,?_⟩
 have n0_:=Am (rB (rL Bh.out) hb)
 have n1_:=Am (rB (rL Bl.out) hb)
 have n2_:=Am (rB (rL Bm.out) hb)
 have n3_:=Am (bX Ba.out hb)
 have n4_:=Am (bX Bc.out hb)
 have n5_:=Am (bX Be.out hb)
 have n6_:=Am (bP (by repeat (first|(with_reducible first|exact HB.out|apply oA|apply pN|apply o1|refine bS ?_ Bg.out|refine bS ?_ Bj.out|refine bS ?_ Bp.out)|exact HB.out)) hb)
 clear Bh
 clear Bl
 clear Bm
 clear Ba
 clear Bc
 clear Be
 clear HB
 have Bh:=n0_
 have Bl:=n1_
 have Bm:=n2_
 have Ba:=n3_
 have Bc:=n4_
 have Be:=n5_
 have HB:=n6_
 clear n0_ n1_ n2_ n3_ n4_ n5_ n6_
 (try clear hb)
 (try clear hb2)
 (try clear hk)
 (try clear hi)
 refine hK.out _ _ ⟨(bC Be.out 0).trans rfl,(bC Be.out 1).trans rfl,(bC Be.out 2).trans rfl,(bC Ba.out 0).trans rfl,(bC Ba.out 1).trans rfl,(bC Ba.out 2).trans rfl⟩ (fun hHeld=>?_)
 clear hK K
 refine norm_ (by show Act.put _ (some 28) _=_;simp only [Act.put,lA,lZ,lS,iw,jw];rfl) ?_
 refine oU 5 none z13q6 HT_ rfl rfl (by kernel_rfl) (by decide) (fun K hK=>?_)
 have hs51:=cz0 Bc.out
 have hfs51:=bF Bc.out 0
 have hns51_0:=Bi.out
 have hns51_2:=Bk.out
 have hms51_0:=Bn.out
 have hms51_2:=Bo.out
 have hs52:=cz1 Bc.out
 have hfs52:=bF Bc.out 1
 have hns52_0:=Bi.out
 have hns52_2:=Bk.out
 have hms52_0:=Bn.out
 have hms52_2:=Bo.out
 have hs53:=cz2 Bc.out
 have hfs53:=bF Bc.out 2
 have hns53_0:=Bi.out
 have hns53_2:=Bk.out
 have hms53_0:=Bn.out
 have hms53_2:=Bo.out
 refine skip_ (w1:=?_) (by rfl) rfl ?_ ?_
 rotate_left;(go_simp;rfl)
 refine hK.out _ _ ⟨((cF (p:=⟨Bb,_,none⟩) Bk.out _).trans (((cF (p:=⟨Bb,_,none⟩) Bk.out _).trans (((cF (p:=⟨Bb,_,none⟩) Bk.out _).trans (hHeld.1)))))),((cF (p:=⟨Bb,_,none⟩) Bk.out _).trans (((cF (p:=⟨Bb,_,none⟩) Bk.out _).trans (((cF (p:=⟨Bb,_,none⟩) Bk.out _).trans (hHeld.2.1)))))),((cF (p:=⟨Bb,_,none⟩) Bk.out _).trans (((cF (p:=⟨Bb,_,none⟩) Bk.out _).trans (((cF (p:=⟨Bb,_,none⟩) Bk.out _).trans (hHeld.2.2.1)))))),((cF (p:=⟨Bb,_,none⟩) Bi.out _).trans (((cF (p:=⟨Bb,_,none⟩) Bi.out _).trans (((cF (p:=⟨Bb,_,none⟩) Bi.out _).trans (hHeld.2.2.2.1)))))),((cF (p:=⟨Bb,_,none⟩) Bi.out _).trans (((cF (p:=⟨Bb,_,none⟩) Bi.out _).trans (((cF (p:=⟨Bb,_,none⟩) Bi.out _).trans (hHeld.2.2.2.2.1)))))),((cF (p:=⟨Bb,_,none⟩) Bi.out _).trans (((cF (p:=⟨Bb,_,none⟩) Bi.out _).trans (((cF (p:=⟨Bb,_,none⟩) Bi.out _).trans (hHeld.2.2.2.2.2))))))⟩ (fun hHeld=>?_)
 clear hK K
 refine pS 6 3 z13q7 HT_ rfl rfl (by kernel_rfl) (by rfl) (by intro w';go_simp;with_reducible rfl) (by simp only [Act.put,lA,lZ,lS,iw,jw];rfl) ?_
 refine pS 7 4 z13q8 HT_ rfl rfl (by kernel_rfl) (by rfl) (by intro w';go_simp;with_reducible rfl) (by simp only [Act.put,lA,lZ,lS,iw,jw];rfl) ?_
 refine pS 8 5 z13q9 HT_ rfl rfl (by kernel_rfl) (by rfl) (by intro w';go_simp;with_reducible rfl) (by simp only [Act.put,lA,lZ,lS,iw,jw];rfl) ?_
 refine done_ (done_of HT_.out (by kernel_rfl)) ?_
 try go_wp2
 refine bodyPost_ret (results_list (rs:=[.cell 2 26,.tmp 3,.tmp 4,.tmp 5]) rfl (by simp) (.cell Bb 26 #[.slice (some ⟨go28,0,none⟩) t143.length co38,.slice Ao42 t146.length co42,.slice Ao43 t149.length co43] (0,0) _ rfl (by (with_reducible repeat (first|refine bN ?_ _|refine bD ?_|refine bA ?_ _));refine bT (cs:=#[.slice (some ⟨go28,0,none⟩) t143.length co38,.slice Ao42 t146.length co42,.slice none 0 0]) ?_ 2 _ rfl;(with_reducible repeat (first|refine bN ?_ _|refine bD ?_|refine bA ?_ _));refine bT (cs:=#[.slice (some ⟨go28,0,none⟩) t143.length co38,.slice none 0 0,.slice none 0 0]) ?_ 1 _ rfl;(with_reducible repeat (first|refine bN ?_ _|refine bD ?_|refine bA ?_ _));refine bT (cs:=#[.slice none 0 0,.slice none 0 0,.slice none 0 0]) ?_ 0 _ rfl;(with_reducible repeat (first|refine bN ?_ _|refine bD ?_|refine bA ?_ _));exact Bc.out) Try.underlying26 rfl (by kernel_rfl) (.tmp (.tmp (.tmp .nil))))) rfl ?_
 exact ⟨_,_,_,by first|rfl|(simp [errW_none,errW_some] <;> rfl)|(simp only [← hji25];first|rfl|(simp [errW_none,errW_some] <;> rfl))|(simp [*,errW_none,errW_some] <;> rfl),by (with_reducible repeat (first|apply rA|apply rN|apply rD));exact rM (rF (p:=⟨Bb,2,none⟩) (rF (p:=⟨Bb,1,none⟩) (rF (p:=⟨Bb,0,none⟩) (rT Bh.out Bc.out (by decide)) (fun _ hk=>hk.2) (.slice (some ⟨go28,0,none⟩) t143.length co38)) (fun _ hk=>hk.2) (.slice Ao42 t146.length co42)) (fun _ hk=>hk.2) (.slice Ao43 t149.length co43)) (fun _ hk=>hk.1),by (with_reducible repeat (first|apply rA|apply rN|apply rD));exact rM (rF (p:=⟨Bb,2,none⟩) (rF (p:=⟨Bb,1,none⟩) (rF (p:=⟨Bb,0,none⟩) (rT Bl.out Bc.out (by decide)) (fun _ hk=>hk.2) (.slice (some ⟨go28,0,none⟩) t143.length co38)) (fun _ hk=>hk.2) (.slice Ao42 t146.length co42)) (fun _ hk=>hk.2) (.slice Ao43 t149.length co43)) (fun _ hk=>hk.1.2),by (with_reducible repeat (first|apply rA|apply rN|apply rD));exact rM (rF (p:=⟨Bb,2,none⟩) (rF (p:=⟨Bb,1,none⟩) (rF (p:=⟨Bb,0,none⟩) (rT Bm.out Bc.out (by decide)) (fun _ hk=>hk.2) (.slice (some ⟨go28,0,none⟩) t143.length co38)) (fun _ hk=>hk.2) (.slice Ao42 t146.length co42)) (fun _ hk=>hk.2) (.slice Ao43 t149.length co43)) (fun _ hk=>trivial),by repeat (first|(with_reducible first|exact HB.out|apply oA|apply pN|apply o1|refine bS ?_ Bg.out|refine bS ?_ Bj.out|refine bS ?_ Bp.out)|exact HB.out)⟩
end Go.Proofs.Ytiifanjjohophaa.PFnSigsDrain
