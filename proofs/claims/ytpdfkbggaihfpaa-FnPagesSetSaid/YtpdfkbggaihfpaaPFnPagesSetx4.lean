/- Proved here, without a condition beyond those that each theorem states: what the Go functions named below do is what the plain functions of the same names say. Written by xprint.py, a program of this session. -/
import Derived.Test.YtpdfkbggaihfpaaPFnPagesSetx0
import Derived.Test.YtpdfkbggaihfpaaPFnPagesSetx1
import Derived.Test.YtpdfkbggaihfpaaPFnPagesSetx2
import Derived.Test.YtpdfkbggaihfpaaPFnPagesSetx3
namespace Go.Proofs.Ytpdfkbggaihfpaa.PFnPagesSet
open Go.RowKit Go.Proofs.YtpdfkbggaihfpaaW.PrintWords Go.Proofs.YtpdfkbggaihfpaaW.PrintLast Go.Proofs.YtpdfkbggaihfpaaW.PrintMore
attribute [local go_sem] max2_int min2_int max_two min_two max_three min_three max_four min_four   -- for this text's walks alone
set_option linter.unusedVariables false
set_option linter.unusedSimpArgs false

attribute [local go_sem ↓] isSome_setCell_
/-! ### spec_l91Pages: function 41 -/
mutual
def spec_l91Pages.l0 : Nat → Int → List Int → Int → List ByteArray → List Int → Option (List ByteArray × List Int × Int)
|0, _, _, _, _, _ => none
|k + 1, x5, x1000, x1001, x144000, x144001 => if x5 > 0 then ((spec_l91Page.f k x1000 x1001).bind fun bt146 => ((spec_l1Take.f k x144000 x144001 bt146.1).bind fun bt148 => (spec_l91Pages.l0 k (wrap64 (x5 - 1)) x1000 bt146.2 bt148.1 bt148.2.1))) else ((spec_l1Used.f x144000 x144001 0).bind fun t155 => (if t155 = true then ((spec_l6Rd_pick.f k x1000 x1001 2).bind fun bt156 => (spec_l91Pages.j1 k (bt156.1 == 0) x1000 bt156.2 x144000 x144001)) else (spec_l91Pages.j1 k false x1000 x1001 x144000 x144001)))
def spec_l91Pages.j1 : Nat → Bool → List Int → Int → List ByteArray → List Int → Option (List ByteArray × List Int × Int)
|0, _, _, _, _, _ => none
|k + 1, x32, x1000, x1001, x144000, x144001 => if x32 = true then ((spec_l6Rd_pick.f k x1000 x1001 99).bind fun bt158 => (if 0 < (x144001.length : Int) then (spec_l91Pages.j2 k x1000 bt158.2 x144000 (x144001.set (0 : Int).toNat (wrap64 (1 + bt158.1)))) else (none))) else (spec_l91Pages.j2 k x1000 x1001 x144000 x144001)
def spec_l91Pages.j2 : Nat → List Int → Int → List ByteArray → List Int → Option (List ByteArray × List Int × Int)
|0, _, _, _, _ => none
|k + 1, x1000, x1001, x144000, x144001 => (spec_l6Rd_pick.f k x1000 x1001 16).bind fun bt161 => (if bt161.1 = 0 then ((some (([(-1), 0, 99, 100] : List Int) : List Int)).bind fun y163 => ((spec_l6Rd_pick.f k x1000 bt161.2 4).bind fun bt166 => (if 0 ≤ bt166.1 then (if bt166.1 < (y163.length : Int) then (if 0 < (x144001.length : Int) then (some (x144000, (x144001.set (0 : Int).toNat (rd y163 bt166.1)), bt166.2)) else (none)) else (none)) else (none)))) else (if bt161.1 = 1 then (if 0 ≤ (wrap64 ((x144000.length : Int) - 1)) then (if (wrap64 ((x144000.length : Int) - 1)) < (x144000.length : Int) then (some ((x144000.set ((wrap64 ((x144000.length : Int) - 1)) : Int).toNat (⟨#[116, 111, 111, 108, 111, 110, 103]⟩ : ByteArray)), x144001, bt161.2)) else (none)) else (none)) else (if bt161.1 = 2 then (if x144001.length < 17592186044416 then (some (x144000, (x144001 ++ [0]), bt161.2)) else (none)) else (if bt161.1 = 3 then ((some (([(⟨#[]⟩ : ByteArray), (⟨#[]⟩ : ByteArray), (⟨#[]⟩ : ByteArray), (⟨#[]⟩ : ByteArray), (⟨#[]⟩ : ByteArray), (⟨#[]⟩ : ByteArray), (⟨#[]⟩ : ByteArray), (⟨#[]⟩ : ByteArray), (⟨#[]⟩ : ByteArray), (⟨#[]⟩ : ByteArray), (⟨#[]⟩ : ByteArray), (⟨#[]⟩ : ByteArray)] : List ByteArray) : List ByteArray)).bind fun y174 => (if x144000.length + y174.length < 8796093022208 then ((some (([0, 0, 0, 0, 0, 0, 0, 0, 0, 0, 0, 0] : List Int) : List Int)).bind fun y180 => (if x144001.length + y180.length < 17592186044416 then (some ((x144000 ++ y174), (x144001 ++ y180), bt161.2)) else (none))) else (none))) else (some (x144000, x144001, bt161.2))))))
end
def spec_l91Pages.f (k : Nat) (s0_0 : List Int) (s0_1 : Int) : Option (List ByteArray × List Int × Int) := (spec_l6Rd_pick.f k s0_0 s0_1 12).bind fun bt134 => ((spec_PagesNew.f (wrap64 (1 + bt134.1))).bind fun bt136 => ((spec_l6Rd_pick.f k s0_0 bt134.2 8).bind fun bt144 => (spec_l91Pages.l0 k bt144.1 s0_0 bt144.2 bt136.1 bt136.2.1)))
theorem spec_l91Pages.mono_l : ∀ k, (∀ y0 y1 y2 y3 y4, LeO (spec_l91Pages.l0 k y0 y1 y2 y3 y4) (spec_l91Pages.l0 (k + 1) y0 y1 y2 y3 y4)) ∧ (∀ y0 y1 y2 y3 y4, LeO (spec_l91Pages.j1 k y0 y1 y2 y3 y4) (spec_l91Pages.j1 (k + 1) y0 y1 y2 y3 y4)) ∧ (∀ y0 y1 y2 y3, LeO (spec_l91Pages.j2 k y0 y1 y2 y3) (spec_l91Pages.j2 (k + 1) y0 y1 y2 y3))
|0 => ⟨fun _ _ _ _ _ r h => by simp [spec_l91Pages.l0] at h, fun _ _ _ _ _ r h => by simp [spec_l91Pages.j1] at h, fun _ _ _ _ r h => by simp [spec_l91Pages.j2] at h⟩
|k + 1 => by
  obtain ⟨ih0, ih1, ih2⟩ := spec_l91Pages.mono_l k
  refine ⟨?_, ?_, ?_⟩
  ·intro y0 y1 y2 y3 y4
   unfold spec_l91Pages.l0
   repeat' first
  |(with_reducible exact ih0 _ _ _ _ _)
  |(with_reducible exact ih1 _ _ _ _ _)
  |(with_reducible exact ih2 _ _ _ _)
  |(with_reducible exact spec_l1Take.mono _ _ _ _)
  |(with_reducible exact spec_l6Rd_pick.mono _ _ _ _)
  |(with_reducible exact spec_l91Page.mono _ _ _)
  |(with_reducible exact LeO.refl _)
  |(with_reducible exact LeO.none _)
  |(with_reducible refine LeO.ite ?_ ?_)
  |(with_reducible refine LeO.bind ?_ (fun _ => ?_))
  |exact ih0 _ _ _ _ _
  |exact ih1 _ _ _ _ _
  |exact ih2 _ _ _ _
  |exact spec_l1Take.mono _ _ _ _
  |exact spec_l6Rd_pick.mono _ _ _ _
  |exact spec_l91Page.mono _ _ _
  |exact LeO.none _
  |refine LeO.ite ?_ ?_
  |refine LeO.bind ?_ (fun _ => ?_)
  ·intro y0 y1 y2 y3 y4
   unfold spec_l91Pages.j1
   repeat' first
  |(with_reducible exact ih0 _ _ _ _ _)
  |(with_reducible exact ih1 _ _ _ _ _)
  |(with_reducible exact ih2 _ _ _ _)
  |(with_reducible exact spec_l1Take.mono _ _ _ _)
  |(with_reducible exact spec_l6Rd_pick.mono _ _ _ _)
  |(with_reducible exact spec_l91Page.mono _ _ _)
  |(with_reducible exact LeO.refl _)
  |(with_reducible exact LeO.none _)
  |(with_reducible refine LeO.ite ?_ ?_)
  |(with_reducible refine LeO.bind ?_ (fun _ => ?_))
  |exact ih0 _ _ _ _ _
  |exact ih1 _ _ _ _ _
  |exact ih2 _ _ _ _
  |exact spec_l1Take.mono _ _ _ _
  |exact spec_l6Rd_pick.mono _ _ _ _
  |exact spec_l91Page.mono _ _ _
  |exact LeO.none _
  |refine LeO.ite ?_ ?_
  |refine LeO.bind ?_ (fun _ => ?_)
  ·intro y0 y1 y2 y3
   unfold spec_l91Pages.j2
   repeat' first
  |(with_reducible exact ih0 _ _ _ _ _)
  |(with_reducible exact ih1 _ _ _ _ _)
  |(with_reducible exact ih2 _ _ _ _)
  |(with_reducible exact spec_l1Take.mono _ _ _ _)
  |(with_reducible exact spec_l6Rd_pick.mono _ _ _ _)
  |(with_reducible exact spec_l91Page.mono _ _ _)
  |(with_reducible exact LeO.refl _)
  |(with_reducible exact LeO.none _)
  |(with_reducible refine LeO.ite ?_ ?_)
  |(with_reducible refine LeO.bind ?_ (fun _ => ?_))
  |exact ih0 _ _ _ _ _
  |exact ih1 _ _ _ _ _
  |exact ih2 _ _ _ _
  |exact spec_l1Take.mono _ _ _ _
  |exact spec_l6Rd_pick.mono _ _ _ _
  |exact spec_l91Page.mono _ _ _
  |exact LeO.none _
  |refine LeO.ite ?_ ?_
  |refine LeO.bind ?_ (fun _ => ?_)
theorem spec_l91Pages.mono : ∀ a0 a1 k, LeO (spec_l91Pages.f k a0 a1) (spec_l91Pages.f (k + 1) a0 a1) := by
 intro a0 a1 k
 obtain ⟨ih0, ih1, ih2⟩ := spec_l91Pages.mono_l k
 unfold spec_l91Pages.f
 repeat' first
  |(with_reducible exact ih0 _ _ _ _ _)
  |(with_reducible exact ih1 _ _ _ _ _)
  |(with_reducible exact ih2 _ _ _ _)
  |(with_reducible exact spec_l1Take.mono _ _ _ _)
  |(with_reducible exact spec_l6Rd_pick.mono _ _ _ _)
  |(with_reducible exact spec_l91Page.mono _ _ _)
  |(with_reducible exact LeO.refl _)
  |(with_reducible exact LeO.none _)
  |(with_reducible refine LeO.ite ?_ ?_)
  |(with_reducible refine LeO.bind ?_ (fun _ => ?_))
  |exact ih0 _ _ _ _ _
  |exact ih1 _ _ _ _ _
  |exact ih2 _ _ _ _
  |exact spec_l1Take.mono _ _ _ _
  |exact spec_l6Rd_pick.mono _ _ _ _
  |exact spec_l91Page.mono _ _ _
  |exact LeO.none _
  |refine LeO.ite ?_ ?_
  |refine LeO.bind ?_ (fun _ => ?_)
def spec_l91Pages.T5 : Bool × List (List Nat × List Nat) := (true, [([], []), ([], []), ([1], [1]), ([0, 2, 2], [0, 2]), ([3], [3]), ([4], [4]), ([4], [4]), ([5, 3, 0, 1, 2, 3, 4, 5], [5])])
def spec_l91Pages.B5 : List Nat := [0, 0, 2, 7, 15, 31, 31, 63]
theorem spec_l91Pages.tab5 : rtab .any (opsOf Try.f41 5) = spec_l91Pages.T5 := by kernel_rfl
theorem spec_l91Pages.bits5 : waitsOk spec_l91Pages.T5.2 spec_l91Pages.B5 = true := by kernel_rfl
def spec_l91Pages.T10 : Bool × List (List Nat × List Nat) := (true, [([], []), ([0], [0]), ([], []), ([], []), ([3], [3]), ([2, 4], [2, 4]), ([5], [5]), ([1, 0, 1, 2, 3, 4, 5, 6], [1]), ([7, 6, 4, 0, 1, 2, 3, 4, 5, 6], [6, 7])])
def spec_l91Pages.B10 : List Nat := [0, 1, 0, 0, 8, 28, 60, 127, 255]
theorem spec_l91Pages.tab10 : rtab .any (opsOf Try.f41 10) = spec_l91Pages.T10 := by kernel_rfl
theorem spec_l91Pages.bits10 : waitsOk spec_l91Pages.T10.2 spec_l91Pages.B10 = true := by kernel_rfl
abbrev z41q0 : Array Bool := bQ 8 0
abbrev z41q1 : Array Bool := bQ 8 2
abbrev z41q2 : Array Bool := bQ 8 3
abbrev z41q3 : Array Bool := bQ 8 7
abbrev z41q4 : Array Bool := bQ 8 15
abbrev z41q5 : Array Bool := bQ 8 31
abbrev z41q6 : Array Bool := bQ 8 63
abbrev z41q7 : Array Bool := bQ 8 127
abbrev z41q8 : Array Bool := bQ 8 255
abbrev z41q9 : Array Bool := bQ 9 0
abbrev z41q10 : Array Bool := bQ 9 1
abbrev z41q11 : Array Bool := bQ 9 9
abbrev z41q12 : Array Bool := bQ 9 11
abbrev z41q13 : Array Bool := bQ 9 31
abbrev z41q14 : Array Bool := bQ 9 15
abbrev z41q15 : Array Bool := bQ 9 27
abbrev z41q16 : Array Bool := bQ 9 63
abbrev z41q17 : Array Bool := bQ 9 127
abbrev z41q18 : Array Bool := bQ 9 255
abbrev z41q19 : Array Bool := bQ 9 511
set_option maxHeartbeats 2000000 in
set_option maxRecDepth 100000 in
theorem spec_l91Pages.calls (k:Nat) (g:Nat) (s0_0:List Int) (s0_1:Int) (r1:List ByteArray) (r2:List Int) (r3:Int) (w0 w:World) (hI:IsS83 w0 w g s0_0 s0_1) (hB:Below w0.heap.size w0 w) (h:spec_l91Pages.f k s0_0 s0_1=some (r1,r2,r3)) :
  Calls Try.prog 41 #[.pointer (some ⟨g,0,none⟩)] w fun e w'=>∃ v0_ v1_:Value,e=.returned (.agg #[v0_,v1_])∧Kd.R Kd.string 9 w' w.heap.size (fun _=>True) v0_ r1∧Kd.R (Kd.int .i64) 3 w' w.heap.size (fun _=>True) v1_ r2∧IsS83 w0 w' g s0_0 r3∧Below w0.heap.size w0 w'∧KeepBut w w' g none:=by
 have hu26:=Try.underlying26
 have HI0:=Am hI
 have HK:=Am (KeepBut.refl w g none)
 have HL:=Am hB.size
 clear hI
 have HW0:=Am hB.size
 have HB:=Am hB
 clear hB
 have H:((spec_l6Rd_pick.f k s0_0 s0_1 12).bind fun bt134=>((spec_PagesNew.f (wrap64 (1 + bt134.1))).bind fun bt136=>((spec_l6Rd_pick.f k s0_0 bt134.2 8).bind fun bt144=>(spec_l91Pages.l0 k bt144.1 s0_0 bt144.2 bt136.1 bt136.2.1))))=some (r1,r2,r3):=h
 clear h
 replace H:=oC H
 obtain ⟨⟨t134,t135⟩,A20,H⟩:=H
 replace H:((spec_PagesNew.f (wrap64 (1 + t134))).bind fun bt136=>((spec_l6Rd_pick.f k s0_0 t135 8).bind fun bt144=>(spec_l91Pages.l0 k bt144.1 s0_0 bt144.2 bt136.1 bt136.2.1)))=some (r1,r2,r3):=H
 have A2:=Am A20
 clear A20
 replace H:=oC H
 obtain ⟨⟨t136,t139,t142⟩,A30,H⟩:=H
 replace H:((spec_l6Rd_pick.f k s0_0 t135 8).bind fun bt144=>(spec_l91Pages.l0 k bt144.1 s0_0 bt144.2 t136 t139))=some (r1,r2,r3):=H
 have A3:=Am A30
 clear A30
 replace H:=oC H
 obtain ⟨⟨t144,t145⟩,A40,H⟩:=H
 replace H:(spec_l91Pages.l0 k t144 s0_0 t145 t136 t139)=some (r1,r2,r3):=H
 have A4:=Am A40
 clear A40
 have H':=Am H
 clear H
 go_enter Try.func41,Try.ntmps41
 go_wp2_with (first|((with_reducible refine gD (N:=2) rfl ?_);refine bI ?hg (N:=2) ?hd (cs:=#[.slice none 0 0,.slice none 0 0]) (t:=26) ?hr ?_;(case hd=>rfl);(case hg=>rfl);(case hr=>first|(go_simp;done)|(go_simp;rfl));intro Bh hg w5 hbox hb;have n0_:=Am (IsS83.below (by repeat (first|(with_reducible first|exact HI0.out|apply IsS83.alloc|apply IsS83.drewN|apply IsS83.drew|apply IsS83.set_1)|exact HI0.out)) hb);have n1_:=Am (KeepBut.trans (by repeat (first|(with_reducible first|exact HK.out|apply KeepBut.set_|apply keep_drewN|apply keep_drew|apply keep_alloc)|exact HK.out)) (KeepBut.of_below hb g none) (.inl rfl));have n2_:=Am (bP (by repeat (first|(with_reducible first|exact HB.out|apply oA|apply pN|apply o1|refine bS ?_ (IsS83.ge HI0.out))|exact HB.out)) hb);have n3_:=Am (hbox);have n4_:=Am ((by rw [hg];exact (keep_size (w:=w) (g:=g) (row:=none) (by repeat (first|(with_reducible first|exact HK.out|apply KeepBut.set_|apply keep_drewN|apply keep_drew|apply keep_alloc)|exact HK.out))):w.heap.size≤Bh));have n5_:=Am ((Nat.le_trans HW0.out (by rw [hg];exact (keep_size (w:=w) (g:=g) (row:=none) (by repeat (first|(with_reducible first|exact HK.out|apply KeepBut.set_|apply keep_drewN|apply keep_drew|apply keep_alloc)|exact HK.out))):w.heap.size≤Bh):w0.heap.size≤Bh));have n6_:=Am ((by rw [hg];exact nI (IsS83.lt (show IsS83 w0 _ g s0_0 s0_1 from by repeat (first|(with_reducible first|exact HI0.out|apply IsS83.alloc|apply IsS83.drewN|apply IsS83.drew|apply IsS83.set_1)|exact HI0.out))):g≠Bh));have n7_:=Am ((by rw [hg];exact nJ (IsS83.lt (show IsS83 w0 _ g s0_0 s0_1 from by repeat (first|(with_reducible first|exact HI0.out|apply IsS83.alloc|apply IsS83.drewN|apply IsS83.drew|apply IsS83.set_1)|exact HI0.out))):Bh≠g));clear HI0 HK HB;revert n0_ n1_ n2_ n3_ n4_ n5_ n6_ n7_;intro HI0 HK HB Bd Bi Bk Be Bo;clear hb hbox hg)|((with_reducible refine gC (f:=47) rfl ?_);refine goesL_ (some 8) rfl rfl Try.func47 (by kernel_rfl) rfl #[.pointer (some ⟨g,0,none⟩),.int .i64 12] rfl (by (try simp only [lM,lC,lN]);first|done|rfl|(simp only [lD,lT];rfl)) ?_;(with_reducible refine (spec_l6Rd_pick.calls k g s0_0 s0_1 12 t134 t135 w0 _ ?side1 ?side2 A2.out).mono ?_);(case side1=>repeat (first|(with_reducible first|exact HI0.out|apply IsS83.alloc|apply IsS83.drewN|apply IsS83.drew|apply IsS83.set_1|refine IsS83.far ?_ Be.out _)|exact HI0.out));(case side2=>repeat (first|(with_reducible first|exact HB.out|apply oA|apply pN|apply o1|refine bS ?_ (IsS83.ge HI0.out)|refine bS ?_ Bk.out)|exact HB.out));rintro e w6 ⟨rfl,hi,hb,hk⟩;refine ⟨_,rfl,?_⟩;have n0_:=Am (KeepBut.blk hk (g':=Bh) (o:=.cells #[.slice none 0 0,.slice none 0 0] 26 (0,0)) (bL Bd.out) Bo.out (by simp));have n1_:=Am (KeepBut.trans (by repeat (first|(with_reducible first|exact HK.out|apply KeepBut.set_|apply keep_drewN|apply keep_drew|apply keep_alloc|refine keep_far ?_ Bi.out _)|exact HK.out)) hk (.inl rfl));have n2_:=Am (hb);have n3_:=Am (hi);clear Bd HK HB HI0;revert n0_ n1_ n2_ n3_;intro Bd HK HB HI0;(try clear hb);(try clear hb2);(try clear hk);(try clear hi))|((with_reducible refine gC (f:=64) rfl ?_);refine goesL_ (some 10) rfl rfl Try.func64 (by kernel_rfl) rfl #[.int .i64 (wrap64 (1 + t134))] rfl (by (try simp only [lM,lC,lN]);first|done|rfl|(simp only [lD,lT];rfl)) ?_;(with_reducible refine (spec_PagesNew.calls (wrap64 (1 + t134)) t136 t139 t142 _ A3.out).mono ?_);rintro e w7 ⟨v137,v140,rfl,ho0,ho1,hb⟩;refine ⟨_,rfl,?_⟩;have n0_:=Am (rW ho0 (keep_size (w:=w) (g:=g) (row:=none) (by repeat (first|(with_reducible first|exact HK.out|apply KeepBut.set_|apply keep_drewN|apply keep_drew|apply keep_alloc|refine keep_far ?_ Bi.out _)|exact HK.out))));have n1_:=Am (rW ho1 (keep_size (w:=w) (g:=g) (row:=none) (by repeat (first|(with_reducible first|exact HK.out|apply KeepBut.set_|apply keep_drewN|apply keep_drew|apply keep_alloc|refine keep_far ?_ Bi.out _)|exact HK.out))));have n2_:=Am (IsS83.below (by repeat (first|(with_reducible first|exact HI0.out|apply IsS83.alloc|apply IsS83.drewN|apply IsS83.drew|apply IsS83.set_1|refine IsS83.far ?_ Be.out _)|exact HI0.out)) hb);have n3_:=Am (bX Bd.out hb);have n4_:=Am (KeepBut.trans (by repeat (first|(with_reducible first|exact HK.out|apply KeepBut.set_|apply keep_drewN|apply keep_drew|apply keep_alloc|refine keep_far ?_ Bi.out _)|exact HK.out)) (KeepBut.of_below hb g none) (.inl rfl));have n5_:=Am (bP (by repeat (first|(with_reducible first|exact HB.out|apply oA|apply pN|apply o1|refine bS ?_ (IsS83.ge HI0.out)|refine bS ?_ Bk.out)|exact HB.out)) hb);clear HI0 Bd HK HB;revert n0_ n1_ n2_ n3_ n4_ n5_;intro Bs Bt HI0 Bd HK HB;(try clear hb);(try clear hb2);(try clear hk);(try clear hi);(try clear ho0);(try clear ho1))|((with_reducible refine gD (N:=3) rfl ?_);refine bI ?hg (N:=3) ?hd (cs:=#[.slice none 0 0,.slice none 0 0]) (t:=26) ?hr ?_;(case hd=>rfl);(case hg=>rfl);(case hr=>first|(go_simp;done)|(go_simp;rfl));intro Bg hg w8 hbox hb;have n0_:=Am (rB (rL Bs.out) hb);have n1_:=Am (rB (rL Bt.out) hb);have n2_:=Am (IsS83.below (by repeat (first|(with_reducible first|exact HI0.out|apply IsS83.alloc|apply IsS83.drewN|apply IsS83.drew|apply IsS83.set_1|refine IsS83.far ?_ Be.out _)|exact HI0.out)) hb);have n3_:=Am (bX Bd.out hb);have n4_:=Am (KeepBut.trans (by repeat (first|(with_reducible first|exact HK.out|apply KeepBut.set_|apply keep_drewN|apply keep_drew|apply keep_alloc|refine keep_far ?_ Bi.out _)|exact HK.out)) (KeepBut.of_below hb g none) (.inl rfl));have n5_:=Am (bP (by repeat (first|(with_reducible first|exact HB.out|apply oA|apply pN|apply o1|refine bS ?_ (IsS83.ge HI0.out)|refine bS ?_ Bk.out)|exact HB.out)) hb);have n6_:=Am (hbox);have n7_:=Am ((by rw [hg];exact (keep_size (w:=w) (g:=g) (row:=none) (by repeat (first|(with_reducible first|exact HK.out|apply KeepBut.set_|apply keep_drewN|apply keep_drew|apply keep_alloc|refine keep_far ?_ Bi.out _)|exact HK.out))):w.heap.size≤Bg));have n8_:=Am ((Nat.le_trans HW0.out (by rw [hg];exact (keep_size (w:=w) (g:=g) (row:=none) (by repeat (first|(with_reducible first|exact HK.out|apply KeepBut.set_|apply keep_drewN|apply keep_drew|apply keep_alloc|refine keep_far ?_ Bi.out _)|exact HK.out))):w.heap.size≤Bg):w0.heap.size≤Bg));have n9_:=Am ((nL Bd.out hg));have n10_:=Am ((nG Bd.out hg));have n11_:=Am ((by rw [hg];exact nI (IsS83.lt (show IsS83 w0 _ g s0_0 t135 from by repeat (first|(with_reducible first|exact HI0.out|apply IsS83.alloc|apply IsS83.drewN|apply IsS83.drew|apply IsS83.set_1|refine IsS83.far ?_ Be.out _)|exact HI0.out))):g≠Bg));have n12_:=Am ((by rw [hg];exact nJ (IsS83.lt (show IsS83 w0 _ g s0_0 t135 from by repeat (first|(with_reducible first|exact HI0.out|apply IsS83.alloc|apply IsS83.drewN|apply IsS83.drew|apply IsS83.set_1|refine IsS83.far ?_ Be.out _)|exact HI0.out))):Bg≠g));clear Bs Bt HI0 Bd HK HB;revert n0_ n1_ n2_ n3_ n4_ n5_ n6_ n7_ n8_ n9_ n10_ n11_ n12_;intro Bs Bt HI0 Bd HK HB Bc Bj Bl Bm Bp Bf Bn;clear hb hbox hg;obtain ⟨Ao9,co9,eo9⟩:=rC Bs.out;subst eo9;have DZ:=Bp.out;have D0:=Bm.out;have D1:=Bn.out;have D2:=Bf.out;have Bw:=cz0 Bc.out;have Bx:=cz1 Bc.out;have By:=bF Bc.out 0;have Bz:=bF Bc.out 1;obtain ⟨Ao13,co13,eo13⟩:=rC Bt.out;subst eo13)|((with_reducible refine gC (f:=47) rfl ?_);refine goesL_ (some 14) rfl rfl Try.func47 (by kernel_rfl) rfl #[.pointer (some ⟨g,0,none⟩),.int .i64 8] rfl (by (try simp only [lM,lC,lN]);first|done|rfl|(simp only [lD,lT];rfl)) ?_;(with_reducible refine (spec_l6Rd_pick.calls k g s0_0 t135 8 t144 t145 w0 _ ?side1 ?side2 A4.out).mono ?_);(case side1=>repeat (first|(with_reducible first|exact HI0.out|apply IsS83.alloc|apply IsS83.drewN|apply IsS83.drew|apply IsS83.set_1|refine IsS83.far ?_ Be.out _|refine IsS83.far ?_ Bf.out _)|exact HI0.out));(case side2=>repeat (first|(with_reducible first|exact HB.out|apply oA|apply pN|apply o1|refine bS ?_ (IsS83.ge HI0.out)|refine bS ?_ Bk.out|refine bS ?_ Bl.out)|exact HB.out));rintro e w14 ⟨rfl,hi,hb,hk⟩;refine ⟨_,rfl,?_⟩;have n0_:=Am (KeepBut.blk hk (g':=Bh) (o:=.cells #[.slice none 0 0,.slice none 0 0] 26 (0,0)) (by (with_reducible repeat (first|refine bN ?_ _|refine bD ?_|refine bA ?_ _|refine bE ?_ Bm.out _));exact Bd.out) Bo.out (by simp));have n1_:=Am (rM (Kd.R_keep (IsS83.apart (show IsS83 w0 _ g s0_0 t135 from by repeat (first|(with_reducible first|exact HI0.out|apply IsS83.alloc|apply IsS83.drewN|apply IsS83.drew|apply IsS83.set_1|refine IsS83.far ?_ Be.out _|refine IsS83.far ?_ Bf.out _)|exact HI0.out)) (by (with_reducible repeat (first|apply rA|apply rN|apply rD));exact (rM (rF (p:=⟨Bg,1,none⟩) (rF (p:=⟨Bg,0,none⟩) (rT Bs.out Bc.out (by decide)) (fun _ hk=>hk.2) (.slice Ao9 t136.length co9)) (fun _ hk=>hk.2) (.slice Ao13 t139.length co13)) (fun _ h_=>h_.1))) (by decide)) hk (fun _ h=>h.2)) (fun _ h=>h.1));have n2_:=Am (rM (Kd.R_keep (IsS83.apart (show IsS83 w0 _ g s0_0 t135 from by repeat (first|(with_reducible first|exact HI0.out|apply IsS83.alloc|apply IsS83.drewN|apply IsS83.drew|apply IsS83.set_1|refine IsS83.far ?_ Be.out _|refine IsS83.far ?_ Bf.out _)|exact HI0.out)) (by (with_reducible repeat (first|apply rA|apply rN|apply rD));exact (rM (rF (p:=⟨Bg,1,none⟩) (rF (p:=⟨Bg,0,none⟩) (rT Bt.out Bc.out (by decide)) (fun _ hk=>hk.2) (.slice Ao9 t136.length co9)) (fun _ hk=>hk.2) (.slice Ao13 t139.length co13)) (fun _ h_=>h_.1))) (by decide)) hk (fun _ h=>h.2)) (fun _ h=>h.1));have n3_:=Am (KeepBut.blk hk (g':=Bg) (o:=.cells #[.slice Ao9 t136.length co9,.slice Ao13 t139.length co13] 26 (0,0)) (by (with_reducible repeat (first|refine bN ?_ _|refine bD ?_|refine bA ?_ _));refine bT (cs:=#[.slice Ao9 t136.length co9,.slice none 0 0]) ?_ 1 _ rfl;(with_reducible repeat (first|refine bN ?_ _|refine bD ?_|refine bA ?_ _));refine bT (cs:=#[.slice none 0 0,.slice none 0 0]) ?_ 0 _ rfl;(with_reducible repeat (first|refine bN ?_ _|refine bD ?_|refine bA ?_ _));exact Bc.out) Bn.out (by simp));have n4_:=Am (KeepBut.trans (by repeat (first|(with_reducible first|exact HK.out|apply KeepBut.set_|apply keep_drewN|apply keep_drew|apply keep_alloc|refine keep_far ?_ Bi.out _|refine keep_far ?_ Bj.out _)|exact HK.out)) hk (.inl rfl));have n5_:=Am (hb);have n6_:=Am (hi);clear Bd Bs Bt Bc HK HB HI0;revert n0_ n1_ n2_ n3_ n4_ n5_ n6_;intro Bd Bs Bt Bc HK HB HI0;(try clear hb);(try clear hb2);(try clear hk);(try clear hi)))
 go_loopg [5] k (fun kq v5 w'=>∃ (x5_1:Int) (x1001_1:Int) (x144000_1:List ByteArray) (x144001_1:List Int) (u144000:Value) (u144001:Value),v5=.int .i64 x5_1∧Aside0 (spec_l91Pages.l0 kq x5_1 s0_0 x1001_1 x144000_1 x144001_1=some (r1,r2,r3))∧Aside0 (kq≤k)∧Aside0 (Kd.R Kd.string 9 w' w.heap.size (fun _=>True) u144000 x144000_1)∧Aside0 (Kd.R (Kd.int .i64) 3 w' w.heap.size (fun _=>True) u144001 x144001_1)∧Aside0 (w'.heap[Bh]?=some (.cells #[(.slice none 0 0),(.slice none 0 0)] 26 (0,0)))∧Aside0 (w'.heap[Bg]?=some (.cells #[u144000,u144001] 26 (0,0)))∧Aside0 (IsS83 w0 w' g s0_0 x1001_1)∧Aside0 (KeepBut w w' g none)∧Aside0 (Below w0.heap.size w0 w'))
 case atStart=>exact ⟨(t144),(t145),(t136),(t139),(.slice Ao9 t136.length co9),(.slice Ao13 t139.length co13),(by first|rfl|(simp;done)|(simp [*];done)),H',⟨nR _⟩,⟨by (with_reducible repeat (first|apply rA|apply rN|apply rD));exact Bs.out⟩,⟨by (with_reducible repeat (first|apply rA|apply rN|apply rD));exact Bt.out⟩,⟨by (with_reducible repeat (first|refine bN ?_ _|refine bD ?_|refine bA ?_ _));exact Bd.out⟩,⟨by (with_reducible repeat (first|refine bN ?_ _|refine bD ?_|refine bA ?_ _));exact Bc.out⟩,⟨by repeat (first|(with_reducible first|exact HI0.out|apply IsS83.alloc|apply IsS83.drewN|apply IsS83.drew|apply IsS83.set_1|refine IsS83.far ?_ Be.out _|refine IsS83.far ?_ Bf.out _)|exact HI0.out)⟩,⟨by repeat (first|(with_reducible first|exact HK.out|apply KeepBut.set_|apply keep_drewN|apply keep_drew|apply keep_alloc|refine keep_far ?_ Bi.out _|refine keep_far ?_ Bj.out _)|exact HK.out)⟩,⟨by repeat (first|(with_reducible first|exact HB.out|apply oA|apply pN|apply o1|refine bS ?_ (IsS83.ge HI0.out)|refine bS ?_ Bk.out|refine bS ?_ Bl.out)|exact HB.out)⟩⟩
 case round =>
  clear H'
  try clear c1
  try clear p2
  try clear c4
  try clear c6
  try clear p6
  try clear c10
  try clear c11
  try clear Bw
  try clear Bx
  try clear By
  try clear Bz
  obtain ⟨x5_1,x1001_1,x144000_1,x144001_1,u144000,u144001,rfl,HA,HK1,Bb,Ba,Bd,Bc,HI0,HK,HB⟩:=hrel
  cases gk with
 |zero=>exact absurd HA.out (by simp [spec_l91Pages.l0])
 |succ k1 =>
   have H:=HA.out
   clear HA
   simp only [spec_l91Pages.l0] at H
   by_cases c15:x5_1 > 0
   ·rw [if_pos c15] at H
    have c15b0:decide (0<x5_1)=true:=dT c15
    clear c15
    replace H:=oC H
    obtain ⟨⟨t146,t147⟩,A160,H⟩:=H
    replace H:((spec_l1Take.f k1 x144000_1 x144001_1 t146).bind fun bt148=>(spec_l91Pages.l0 k1 (wrap64 (x5_1 - 1)) s0_0 t147 bt148.1 bt148.2.1))=some (r1,r2,r3):=H
    have A16:=Am A160
    clear A160
    replace H:=oC H
    obtain ⟨⟨t148,t151,t154⟩,A170,H⟩:=H
    replace H:(spec_l91Pages.l0 k1 (wrap64 (x5_1 - 1)) s0_0 t147 t148 t151)=some (r1,r2,r3):=H
    have A17:=Am A170
    clear A170
    have H':=Am H
    clear H
    try go_wp2
    have n0_:=Am (rD Bb.out)
    have n1_:=Am (rD Ba.out)
    have n2_:=Am (bD Bd.out)
    have n3_:=Am (bD Bc.out)
    have n4_:=Am (IsS83.drew HI0.out)
    have n5_:=Am (keep_drew HK.out)
    have n6_:=Am (o1 HB.out)
    clear Bb
    clear Ba
    clear Bd
    clear Bc
    clear HI0
    clear HK
    clear HB
    have Bb:=n0_
    have Ba:=n1_
    have Bd:=n2_
    have Bc:=n3_
    have HI0:=n4_
    have HK:=n5_
    have HB:=n6_
    clear n0_ n1_ n2_ n3_ n4_ n5_ n6_
    refine start_ (n:=8) (S:=fun w'=>w'.cell? ⟨Bg,0,none⟩=some (u144000)∧w'.cell? ⟨Bg,1,none⟩=some (u144001)) (ds:=[7]) z41q0 (by kernel_rfl) rfl rfl ⟨(bC Bc.out 0).trans rfl,(bC Bc.out 1).trans rfl⟩ (fun hHeld=>?_);refine with_st spec_l91Pages.tab5 spec_l91Pages.bits5 (fun _ _ _ _ _ h=>h) (fun HT_=>?_)
    generalize wr.drew=w18 at Bb Ba Bd Bc HI0 HK HB hHeld ⊢
    refine pS 1 21 z41q1 HT_ rfl rfl (by kernel_rfl) (by rfl) (by intro w';go_simp;with_reducible rfl) (by simp only [Act.put,lA,lZ,lS,iw,jw];rfl) ?_
    refine tS 0 20 z41q2 HT_ hHeld rfl rfl (by kernel_rfl) (by rfl) (by rintro w' ⟨s0,s1⟩;go_simp;with_reducible rfl) (by simp only [Act.put,lA,lZ,lS,iw,jw];rfl) ?_
    refine oS 2 22 z41q3 HT_ rfl rfl (by kernel_rfl) (by decide) (fun K hK=>?_)
    refine goes_ Try.func58 (by kernel_rfl) rfl #[.pointer (some ⟨g,0,none⟩)] (by rfl) rfl rfl (by (try simp only [lM,lC,lN]);first|done|rfl|(simp only [lD,lT];rfl)) ?_
    with_reducible refine (spec_l91Page.calls k1 g s0_0 x1001_1 t146 t147 w0 _ ?side1 ?side2 A16.out).mono ?_
    (case side1=>repeat (first|(with_reducible first|exact HI0.out|apply IsS83.alloc|apply IsS83.drewN|apply IsS83.drew|apply IsS83.set_1|refine IsS83.far ?_ Be.out _|refine IsS83.far ?_ Bf.out _)|exact HI0.out))
    (case side2=>repeat (first|(with_reducible first|exact HB.out|apply oA|apply pN|apply o1|refine bS ?_ (IsS83.ge HI0.out)|refine bS ?_ Bk.out|refine bS ?_ Bl.out)|exact HB.out))
    rintro e w19 ⟨rfl,hi,hb,hk⟩
    refine ⟨_,rfl,?_⟩
    have n0_:=Am (rM (Kd.R_keep (IsS83.apart (show IsS83 w0 _ g s0_0 x1001_1 from by repeat (first|(with_reducible first|exact HI0.out|apply IsS83.alloc|apply IsS83.drewN|apply IsS83.drew|apply IsS83.set_1|refine IsS83.far ?_ Be.out _|refine IsS83.far ?_ Bf.out _)|exact HI0.out)) (rL Bb.out) (by decide)) hk (fun _ h=>h.2)) (fun _ h=>h.1))
    have n1_:=Am (rM (Kd.R_keep (IsS83.apart (show IsS83 w0 _ g s0_0 x1001_1 from by repeat (first|(with_reducible first|exact HI0.out|apply IsS83.alloc|apply IsS83.drewN|apply IsS83.drew|apply IsS83.set_1|refine IsS83.far ?_ Be.out _|refine IsS83.far ?_ Bf.out _)|exact HI0.out)) (rL Ba.out) (by decide)) hk (fun _ h=>h.2)) (fun _ h=>h.1))
    have n2_:=Am (KeepBut.blk hk (g':=Bh) (o:=.cells #[.slice none 0 0,.slice none 0 0] 26 (0,0)) (bL Bd.out) Bo.out (by simp))
    have n3_:=Am (KeepBut.blk hk (g':=Bg) (o:=.cells #[u144000,u144001] 26 (0,0)) (bL Bc.out) Bn.out (by simp))
    have n4_:=Am (KeepBut.trans (by repeat (first|(with_reducible first|exact HK.out|apply KeepBut.set_|apply keep_drewN|apply keep_drew|apply keep_alloc|refine keep_far ?_ Bi.out _|refine keep_far ?_ Bj.out _)|exact HK.out)) hk (.inl rfl))
    have n5_:=Am (hb)
    have n6_:=Am (hi)
    clear Bb
    clear Ba
    clear Bd
    clear Bc
    clear HK
    clear HB
    clear HI0
    have Bb:=n0_
    have Ba:=n1_
    have Bd:=n2_
    have Bc:=n3_
    have HK:=n4_
    have HB:=n5_
    have HI0:=n6_
    clear n0_ n1_ n2_ n3_ n4_ n5_ n6_
    (try clear hb)
    (try clear hb2)
    (try clear hk)
    (try clear hi)
    obtain ⟨Ao20,co20,eo20⟩:=rC Bb.out
    (first|subst eo20|(injection eo20 with f1_ f2_ f3_;have f4_:=f1_.symm;have f5_:=f3_.symm;clear f1_ f2_ f3_;subst f4_;subst f5_))
    obtain ⟨Ao21,co21,eo21⟩:=rC Ba.out
    (first|subst eo21|(injection eo21 with f1_ f2_ f3_;have f4_:=f1_.symm;have f5_:=f3_.symm;clear f1_ f2_ f3_;subst f4_;subst f5_))
    refine hK.out _ _ ⟨(bC Bc.out 0).trans rfl,(bC Bc.out 1).trans rfl⟩ (fun hHeld=>?_)
    clear hK K
    refine norm_ (by show Act.put _ (some 22) _=_;simp only [Act.put,lA,lZ,lS,iw,jw];rfl) ?_
    refine oS 3 23 z41q4 HT_ rfl rfl (by kernel_rfl) (by decide) (fun K hK=>?_)
    refine goes_ Try.func59 (by kernel_rfl) rfl #[.agg #[.slice Ao20 x144000_1.length co20,.slice Ao21 x144001_1.length co21],.string t146] (by rfl) rfl rfl (by (try simp only [lM,lC,lN]);first|done|rfl|(simp only [lD,lT];rfl)) ?_
    with_reducible refine (spec_l1Take.calls k1 (fun k_=>some k_=(.slice Ao20 x144000_1.length co20:Value).ownBlock) (.slice Ao20 x144000_1.length co20) x144000_1 (fun k_=>some k_=(.slice Ao21 x144001_1.length co21:Value).ownBlock) (.slice Ao21 x144001_1.length co21) x144001_1 t146 t148 t151 t154 w0 _ ?side1 ?side2 ?side3 A17.out).mono ?_
    (case side1=>repeat (first|(with_reducible first|exact HB.out|apply oA|apply pN|apply o1|refine bS ?_ (IsS83.ge HI0.out)|refine bS ?_ Bk.out|refine bS ?_ Bl.out)|exact HB.out))
    (case side2=>exact rW (Kd.R_tight rfl Bb.out) HL.out)
    (case side3=>exact rW (Kd.R_tight rfl Ba.out) HL.out)
    rintro e w22 ⟨v149,v152,rfl,ho0,ho1,hb,hkp⟩
    refine ⟨_,rfl,?_⟩
    have n0_:=Am (blk_kept (bL Bd.out) hkp (fun hs_=>Or.elim hs_ (fun e_=>(fun e_=>(rE Bb.out Bd.out (by decide)) e_) e_) (fun e_=>(fun e_=>(rE Ba.out Bd.out (by decide)) e_) e_)))
    have n1_:=Am (blk_kept (bL Bc.out) hkp (fun hs_=>Or.elim hs_ (fun e_=>(fun e_=>(rE Bb.out Bc.out (by decide)) e_) e_) (fun e_=>(fun e_=>(rE Ba.out Bc.out (by decide)) e_) e_)))
    have n2_:=Am (IsS83.kept (by repeat (first|(with_reducible first|exact HI0.out|apply IsS83.alloc|apply IsS83.drewN|apply IsS83.drew|apply IsS83.set_1|refine IsS83.far ?_ Be.out _|refine IsS83.far ?_ Bf.out _)|exact HI0.out)) hkp (fun hs_=>Or.elim hs_ (fun e_=>(fun e_=>(IsS83.own_ne HI0.out Bb.out (by decide)) e_) e_) (fun e_=>(fun e_=>(IsS83.own_ne HI0.out Ba.out (by decide)) e_) e_)))
    have n3_:=Am (rM (ok':=fun k_=>True) (Kd.R_raise (d:=Kd.string) (b:=w0.heap.size) (b':=w.heap.size) (fun _ _ _ _ h_=>h_) ho0 (fun k_ e_=>Or.elim (ho0.1 k_ e_) (fun hs_=>Or.elim hs_ (fun e_=>(fun e_=>rZ Bb.out k_ e_.symm) e_) (fun e_=>(fun e_=>rZ Ba.out k_ e_.symm) e_)) (fun hn_=>Nat.le_trans (keep_size (w:=w) (g:=g) (row:=none) (by repeat (first|(with_reducible first|exact HK.out|apply KeepBut.set_|apply keep_drewN|apply keep_drew|apply keep_alloc|refine keep_far ?_ Bi.out _|refine keep_far ?_ Bj.out _)|exact HK.out))) hn_))) (fun k_ hk_=>trivial))
    have n4_:=Am (rM (ok':=fun k_=>True) (Kd.R_raise (d:=(Kd.int .i64)) (b:=w0.heap.size) (b':=w.heap.size) (fun _ _ _ _ h_=>h_) ho1 (fun k_ e_=>Or.elim (ho1.1 k_ e_) (fun hs_=>Or.elim hs_ (fun e_=>(fun e_=>rZ Bb.out k_ e_.symm) e_) (fun e_=>(fun e_=>rZ Ba.out k_ e_.symm) e_)) (fun hn_=>Nat.le_trans (keep_size (w:=w) (g:=g) (row:=none) (by repeat (first|(with_reducible first|exact HK.out|apply KeepBut.set_|apply keep_drewN|apply keep_drew|apply keep_alloc|refine keep_far ?_ Bi.out _|refine keep_far ?_ Bj.out _)|exact HK.out))) hn_))) (fun k_ hk_=>trivial))
    have n5_:=Am (Kept.keepG (by repeat (first|(with_reducible first|exact HK.out|apply KeepBut.set_|apply keep_drewN|apply keep_drew|apply keep_alloc|refine keep_far ?_ Bi.out _|refine keep_far ?_ Bj.out _)|exact HK.out)) hkp (fun k_ hs_=>Or.elim hs_ (fun e_=>(fun e_=>.inr (rZ Bb.out k_ e_.symm)) e_) (fun e_=>(fun e_=>.inr (rZ Ba.out k_ e_.symm)) e_)))
    have n6_:=Am (hb)
    clear Bd
    clear Bc
    clear HI0
    clear HK
    clear HB
    clear Bb
    clear Ba
    have Bd:=n0_
    have Bc:=n1_
    have HI0:=n2_
    have BI:=n3_
    have BJ:=n4_
    have HK:=n5_
    have HB:=n6_
    clear n0_ n1_ n2_ n3_ n4_ n5_ n6_
    (try clear hb)
    (try clear hkp)
    (try clear ho0)
    (try clear ho1)
    obtain ⟨Ao23,co23,eo23⟩:=rC BI.out
    (first|subst eo23|(injection eo23 with f1_ f2_ f3_;have f4_:=f1_.symm;have f5_:=f3_.symm;clear f1_ f2_ f3_;subst f4_;subst f5_))
    obtain ⟨Ao25,co25,eo25⟩:=rC BJ.out
    (first|subst eo25|(injection eo25 with f1_ f2_ f3_;have f4_:=f1_.symm;have f5_:=f3_.symm;clear f1_ f2_ f3_;subst f4_;subst f5_))
    refine hK.out _ _ ⟨(bC Bc.out 0).trans rfl,(bC Bc.out 1).trans rfl⟩ (fun hHeld=>?_)
    clear hK K
    refine norm_ (by show Act.put _ (some 23) _=_;simp only [Act.put,lA,lZ,lS,iw,jw];rfl) ?_
    refine pS 4 19 z41q5 HT_ rfl rfl (by kernel_rfl) (by rfl) (by intro w';go_simp;with_reducible rfl) (by simp only [Act.put,lA,lZ,lS,iw,jw];rfl) ?_
    refine pS 5 24 z41q6 HT_ rfl rfl (by kernel_rfl) (by rfl) (by intro w';go_simp;with_reducible rfl) (by simp only [Act.put,lA,lZ,lS,iw,jw];rfl) ?_
    refine pS 6 25 z41q7 HT_ rfl rfl (by kernel_rfl) (by rfl) (by intro w';go_simp;with_reducible rfl) (by simp only [Act.put,lA,lZ,lS,iw,jw];rfl) ?_
    refine last_ (i:=7) (N:=none) z41q8 rfl rfl (one_of HT_.out (by kernel_rfl)) (by decide) (fun K hK=>?_)
    have hs24:=cz0 Bc.out
    have hfs24:=bF Bc.out 0
    have hns24_0:=Bm.out
    have hms24_0:=Bp.out
    have hs26:=cz1 Bc.out
    have hfs26:=bF Bc.out 1
    have hns26_0:=Bm.out
    have hms26_0:=Bp.out
    refine skip_ (w1:=?_) (by rfl) rfl ?_ ?_
    rotate_left;(go_simp;rfl)
    refine hK.out _ _ ?_
    clear hK K
    refine done_ (done_of HT_.out (by kernel_rfl)) ?_
    try go_wp2
    go_roundg k1
    case measure=>have:=HK1.out;omega
    case rel=>exact ⟨(wrap64 (x5_1 - 1)),(t147),(t148),(t151),(.slice Ao23 t148.length co23),(.slice Ao25 t151.length co25),(by first|rfl|(simp;done)|(simp [*];done)),H',⟨by have:=HK1.out;omega⟩,⟨by (with_reducible repeat (first|apply rA|apply rN|apply rD));exact rM (rF (p:=⟨Bg,1,none⟩) (rF (p:=⟨Bg,0,none⟩) (rT BI.out Bc.out (by decide)) (fun _ hk=>hk.2) (.slice Ao23 t148.length co23)) (fun _ hk=>hk.2) (.slice Ao25 t151.length co25)) (fun _ hk=>trivial)⟩,⟨by (with_reducible repeat (first|apply rA|apply rN|apply rD));exact rM (rF (p:=⟨Bg,1,none⟩) (rF (p:=⟨Bg,0,none⟩) (rT BJ.out Bc.out (by decide)) (fun _ hk=>hk.2) (.slice Ao23 t148.length co23)) (fun _ hk=>hk.2) (.slice Ao25 t151.length co25)) (fun _ hk=>trivial)⟩,⟨by (with_reducible repeat (first|refine bN ?_ _|refine bD ?_|refine bA ?_ _|refine bE ?_ Bm.out _));exact Bd.out⟩,⟨by (with_reducible repeat (first|refine bN ?_ _|refine bD ?_|refine bA ?_ _));refine bT (cs:=#[.slice Ao23 t148.length co23,.slice Ao21 x144001_1.length co21]) ?_ 1 _ rfl;(with_reducible repeat (first|refine bN ?_ _|refine bD ?_|refine bA ?_ _));refine bT (cs:=#[.slice Ao20 x144000_1.length co20,.slice Ao21 x144001_1.length co21]) ?_ 0 _ rfl;(with_reducible repeat (first|refine bN ?_ _|refine bD ?_|refine bA ?_ _));exact Bc.out⟩,⟨by repeat (first|(with_reducible first|exact HI0.out|apply IsS83.alloc|apply IsS83.drewN|apply IsS83.drew|apply IsS83.set_1|refine IsS83.far ?_ Be.out _|refine IsS83.far ?_ Bf.out _)|exact HI0.out)⟩,⟨by repeat (first|(with_reducible first|exact HK.out|apply KeepBut.set_|apply keep_drewN|apply keep_drew|apply keep_alloc|refine keep_far ?_ Bi.out _|refine keep_far ?_ Bj.out _)|exact HK.out)⟩,⟨by repeat (first|(with_reducible first|exact HB.out|apply oA|apply pN|apply o1|refine bS ?_ (IsS83.ge HI0.out)|refine bS ?_ Bk.out|refine bS ?_ Bl.out)|exact HB.out)⟩⟩
   rw [if_neg c15] at H
   have c15b0:decide (0<x5_1)=false:=dF c15
   clear c15
   have HC27:=Am H
   clear H
   go_upto_region 6 with (fail)
   go_cut [32] (fun v32 wc=>∃ (kq:Nat) (x32_26:Bool) (x1001_26:Int),v32=.bool x32_26∧Aside0 (spec_l91Pages.j1 kq x32_26 s0_0 x1001_26 x144000_1 x144001_1=some (r1,r2,r3))∧Aside0 (kq≤k1)∧Aside0 (Kd.R Kd.string 9 wc w.heap.size (fun _=>True) u144000 x144000_1)∧Aside0 (Kd.R (Kd.int .i64) 3 wc w.heap.size (fun _=>True) u144001 x144001_1)∧Aside0 (wc.heap[Bh]?=some (.cells #[(.slice none 0 0),(.slice none 0 0)] 26 (0,0)))∧Aside0 (wc.heap[Bg]?=some (.cells #[u144000,u144001] 26 (0,0)))∧Aside0 (IsS83 w0 wc g s0_0 x1001_26)∧Aside0 (KeepBut w wc g none)∧Aside0 (Below w0.heap.size w0 wc))
   case first =>
    have H:=HC27.out
    clear HC27
    replace H:=oC H
    obtain ⟨t155,A280,H⟩:=H
    replace H:(if t155=true then ((spec_l6Rd_pick.f k1 s0_0 x1001_1 2).bind fun bt156=>(spec_l91Pages.j1 k1 (bt156.1 == 0) s0_0 bt156.2 x144000_1 x144001_1)) else (spec_l91Pages.j1 k1 false s0_0 x1001_1 x144000_1 x144001_1))=some (r1,r2,r3):=H
    have A28:=Am A280
    clear A280
    by_cases c29:t155=true
    rotate_left
    ·replace c29:=Bool.eq_false_iff.mpr c29
     subst c29
     have H1:(spec_l91Pages.j1 k1 false s0_0 x1001_1 x144000_1 x144001_1)=some (r1,r2,r3):=by rw [if_neg (show ¬ (false=true) by decide)] at H;exact H
     clear H
     have H:=H1
     clear H1
     have H':=Am H
     clear H
     have D7:=Bp.out
     have D8:=Bm.out
     have D9:=Bn.out
     have Fa:=Bf.out
     have BE:=cz0 Bc.out
     have BF:=cz1 Bc.out
     have BG:=bF Bc.out 0
     have BH:=bF Bc.out 1
     obtain ⟨Ao41,co41,eo41⟩:=rC Bb.out
     subst eo41
     obtain ⟨Ao42,co42,eo42⟩:=rC Ba.out
     subst eo42
     go_wp2_with (first|((with_reducible refine gC (f:=50) rfl ?_);refine goesL_ (some 27) rfl rfl Try.func50 (by kernel_rfl) rfl #[.agg #[.slice Ao41 x144000_1.length co41,.slice Ao42 x144001_1.length co42],.int .i64 0] rfl (by (try simp only [lM,lC,lN]);first|done|rfl|(simp only [lD,lT];rfl)) ?_;(with_reducible refine (spec_l1Used.calls _ _ x144000_1 _ _ x144001_1 0 false _ ?side1 ?side2 ?side3 ?side4 A28.out).mono ?_);(case side1=>exact cL (rR Bb.out).2.2);(case side2=>exact (rR Bb.out).2.1);(case side3=>exact cL (rR Ba.out).2.2);(case side4=>exact (rR Ba.out).2.1);rintro e w43 ⟨rfl,hb⟩;refine ⟨_,rfl,?_⟩;have n0_:=Am (rB (rL Bb.out) hb);have n1_:=Am (rB (rL Ba.out) hb);have n2_:=Am (bX Bd.out hb);have n3_:=Am (bX Bc.out hb);have n4_:=Am (IsS83.below (by repeat (first|(with_reducible first|exact HI0.out|apply IsS83.alloc|apply IsS83.drewN|apply IsS83.drew|apply IsS83.set_1|refine IsS83.far ?_ Be.out _|refine IsS83.far ?_ Bf.out _)|exact HI0.out)) hb);have n5_:=Am (KeepBut.trans (by repeat (first|(with_reducible first|exact HK.out|apply KeepBut.set_|apply keep_drewN|apply keep_drew|apply keep_alloc|refine keep_far ?_ Bi.out _|refine keep_far ?_ Bj.out _)|exact HK.out)) (KeepBut.of_below hb g none) (.inl rfl));have n6_:=Am (bP (by repeat (first|(with_reducible first|exact HB.out|apply oA|apply pN|apply o1|refine bS ?_ (IsS83.ge HI0.out)|refine bS ?_ Bk.out|refine bS ?_ Bl.out)|exact HB.out)) hb);clear Bb Ba Bd Bc HI0 HK HB;revert n0_ n1_ n2_ n3_ n4_ n5_ n6_;intro Bb Ba Bd Bc HI0 HK HB;(try clear hb);(try clear hb2);(try clear hk);(try clear hi)))
     go_meet
     case rel=>exact ⟨_,(false),(x1001_1),(by first|rfl|(simp;done)|(simp [*];done)),H',⟨by have:=HK1.out;first|omega|exact nR _⟩,⟨by (with_reducible repeat (first|apply rA|apply rN|apply rD));exact Bb.out⟩,⟨by (with_reducible repeat (first|apply rA|apply rN|apply rD));exact Ba.out⟩,⟨by (with_reducible repeat (first|refine bN ?_ _|refine bD ?_|refine bA ?_ _));exact Bd.out⟩,⟨by (with_reducible repeat (first|refine bN ?_ _|refine bD ?_|refine bA ?_ _));exact Bc.out⟩,⟨by repeat (first|(with_reducible first|exact HI0.out|apply IsS83.alloc|apply IsS83.drewN|apply IsS83.drew|apply IsS83.set_1|refine IsS83.far ?_ Be.out _|refine IsS83.far ?_ Bf.out _)|exact HI0.out)⟩,⟨by repeat (first|(with_reducible first|exact HK.out|apply KeepBut.set_|apply keep_drewN|apply keep_drew|apply keep_alloc|refine keep_far ?_ Bi.out _|refine keep_far ?_ Bj.out _)|exact HK.out)⟩,⟨by repeat (first|(with_reducible first|exact HB.out|apply oA|apply pN|apply o1|refine bS ?_ (IsS83.ge HI0.out)|refine bS ?_ Bk.out|refine bS ?_ Bl.out)|exact HB.out)⟩⟩
    subst c29
    have H1:((spec_l6Rd_pick.f k1 s0_0 x1001_1 2).bind fun bt156=>(spec_l91Pages.j1 k1 (bt156.1 == 0) s0_0 bt156.2 x144000_1 x144001_1))=some (r1,r2,r3):=by rw [if_pos rfl] at H;exact H
    clear H
    have H:=H1
    clear H1
    replace H:=oC H
    obtain ⟨⟨t156,t157⟩,A300,H⟩:=H
    replace H:(spec_l91Pages.j1 k1 (t156 == 0) s0_0 t157 x144000_1 x144001_1)=some (r1,r2,r3):=H
    have A30:=Am A300
    clear A300
    have H':=Am H
    clear H
    have D3:=Bp.out
    have D4:=Bm.out
    have D5:=Bn.out
    have D6:=Bf.out
    have BA:=cz0 Bc.out
    have BB:=cz1 Bc.out
    have BC:=bF Bc.out 0
    have BD:=bF Bc.out 1
    obtain ⟨Ao34,co34,eo34⟩:=rC Bb.out
    subst eo34
    obtain ⟨Ao35,co35,eo35⟩:=rC Ba.out
    subst eo35
    go_wp2_with (first|((with_reducible refine gC (f:=50) rfl ?_);refine goesL_ (some 27) rfl rfl Try.func50 (by kernel_rfl) rfl #[.agg #[.slice Ao34 x144000_1.length co34,.slice Ao35 x144001_1.length co35],.int .i64 0] rfl (by (try simp only [lM,lC,lN]);first|done|rfl|(simp only [lD,lT];rfl)) ?_;(with_reducible refine (spec_l1Used.calls _ _ x144000_1 _ _ x144001_1 0 true _ ?side1 ?side2 ?side3 ?side4 A28.out).mono ?_);(case side1=>exact cL (rR Bb.out).2.2);(case side2=>exact (rR Bb.out).2.1);(case side3=>exact cL (rR Ba.out).2.2);(case side4=>exact (rR Ba.out).2.1);rintro e w36 ⟨rfl,hb⟩;refine ⟨_,rfl,?_⟩;have n0_:=Am (rB (rL Bb.out) hb);have n1_:=Am (rB (rL Ba.out) hb);have n2_:=Am (bX Bd.out hb);have n3_:=Am (bX Bc.out hb);have n4_:=Am (IsS83.below (by repeat (first|(with_reducible first|exact HI0.out|apply IsS83.alloc|apply IsS83.drewN|apply IsS83.drew|apply IsS83.set_1|refine IsS83.far ?_ Be.out _|refine IsS83.far ?_ Bf.out _)|exact HI0.out)) hb);have n5_:=Am (KeepBut.trans (by repeat (first|(with_reducible first|exact HK.out|apply KeepBut.set_|apply keep_drewN|apply keep_drew|apply keep_alloc|refine keep_far ?_ Bi.out _|refine keep_far ?_ Bj.out _)|exact HK.out)) (KeepBut.of_below hb g none) (.inl rfl));have n6_:=Am (bP (by repeat (first|(with_reducible first|exact HB.out|apply oA|apply pN|apply o1|refine bS ?_ (IsS83.ge HI0.out)|refine bS ?_ Bk.out|refine bS ?_ Bl.out)|exact HB.out)) hb);clear Bb Ba Bd Bc HI0 HK HB;revert n0_ n1_ n2_ n3_ n4_ n5_ n6_;intro Bb Ba Bd Bc HI0 HK HB;(try clear hb);(try clear hb2);(try clear hk);(try clear hi))|(go_at_call 47;(with_reducible refine (spec_l6Rd_pick.calls k1 g s0_0 x1001_1 2 t156 t157 w0 _ ?side1 ?side2 A30.out).mono ?_);(case side1=>repeat (first|(with_reducible first|exact HI0.out|apply IsS83.alloc|apply IsS83.drewN|apply IsS83.drew|apply IsS83.set_1|refine IsS83.far ?_ Be.out _|refine IsS83.far ?_ Bf.out _)|exact HI0.out));(case side2=>repeat (first|(with_reducible first|exact HB.out|apply oA|apply pN|apply o1|refine bS ?_ (IsS83.ge HI0.out)|refine bS ?_ Bk.out|refine bS ?_ Bl.out)|exact HB.out));rintro e w37 ⟨rfl,hi,hb,hk⟩;have n0_:=Am (rM (Kd.R_keep (IsS83.apart (show IsS83 w0 _ g s0_0 x1001_1 from by repeat (first|(with_reducible first|exact HI0.out|apply IsS83.alloc|apply IsS83.drewN|apply IsS83.drew|apply IsS83.set_1|refine IsS83.far ?_ Be.out _|refine IsS83.far ?_ Bf.out _)|exact HI0.out)) (rL Bb.out) (by decide)) hk (fun _ h=>h.2)) (fun _ h=>h.1));have n1_:=Am (rM (Kd.R_keep (IsS83.apart (show IsS83 w0 _ g s0_0 x1001_1 from by repeat (first|(with_reducible first|exact HI0.out|apply IsS83.alloc|apply IsS83.drewN|apply IsS83.drew|apply IsS83.set_1|refine IsS83.far ?_ Be.out _|refine IsS83.far ?_ Bf.out _)|exact HI0.out)) (rL Ba.out) (by decide)) hk (fun _ h=>h.2)) (fun _ h=>h.1));have n2_:=Am (KeepBut.blk hk (g':=Bh) (o:=.cells #[.slice none 0 0,.slice none 0 0] 26 (0,0)) (bL Bd.out) Bo.out (by simp));have n3_:=Am (KeepBut.blk hk (g':=Bg) (o:=.cells #[.slice Ao34 x144000_1.length co34,.slice Ao35 x144001_1.length co35] 26 (0,0)) (bL Bc.out) Bn.out (by simp));have n4_:=Am (KeepBut.trans (by repeat (first|(with_reducible first|exact HK.out|apply KeepBut.set_|apply keep_drewN|apply keep_drew|apply keep_alloc|refine keep_far ?_ Bi.out _|refine keep_far ?_ Bj.out _)|exact HK.out)) hk (.inl rfl));have n5_:=Am (hb);have n6_:=Am (hi);clear Bb Ba Bd Bc HK HB HI0;revert n0_ n1_ n2_ n3_ n4_ n5_ n6_;intro Bb Ba Bd Bc HK HB HI0;(try clear hb);(try clear hb2);(try clear hk);(try clear hi)))
    go_meet
    case rel=>exact ⟨_,((t156 == 0)),(t157),(by first|rfl|(simp;done)|(simp [*];done)),H',⟨by have:=HK1.out;first|omega|exact nR _⟩,⟨by (with_reducible repeat (first|apply rA|apply rN|apply rD));exact Bb.out⟩,⟨by (with_reducible repeat (first|apply rA|apply rN|apply rD));exact Ba.out⟩,⟨by (with_reducible repeat (first|refine bN ?_ _|refine bD ?_|refine bA ?_ _));exact Bd.out⟩,⟨by (with_reducible repeat (first|refine bN ?_ _|refine bD ?_|refine bA ?_ _));exact Bc.out⟩,⟨by repeat (first|(with_reducible first|exact HI0.out|apply IsS83.alloc|apply IsS83.drewN|apply IsS83.drew|apply IsS83.set_1|refine IsS83.far ?_ Be.out _|refine IsS83.far ?_ Bf.out _)|exact HI0.out)⟩,⟨by repeat (first|(with_reducible first|exact HK.out|apply KeepBut.set_|apply keep_drewN|apply keep_drew|apply keep_alloc|refine keep_far ?_ Bi.out _|refine keep_far ?_ Bj.out _)|exact HK.out)⟩,⟨by repeat (first|(with_reducible first|exact HB.out|apply oA|apply pN|apply o1|refine bS ?_ (IsS83.ge HI0.out)|refine bS ?_ Bk.out|refine bS ?_ Bl.out)|exact HB.out)⟩⟩
   case rest =>
    clear HC27
    try clear c1
    try clear c2
    try clear p2
    try clear c3
    try clear c4
    try clear c5
    try clear c6
    try clear p6
    try clear c10
    try clear c11
    try clear c15
    try clear c15b0
    try clear c29
    try clear c31
    try clear c32
    try clear c38
    try clear c39
    try clear c41
    try clear Bw
    try clear Bx
    try clear BA
    try clear BB
    try clear BE
    try clear BF
    try clear By
    try clear Bz
    try clear BC
    try clear BD
    try clear BG
    try clear BH
    try clear p2
    try clear p6
    obtain ⟨kq,x32_26,x1001_26,rfl,HA,BM,Bb,Ba,Bd,Bc,HI0,HK,HB⟩:=hcut
    cases kq with
   |zero=>exact absurd HA.out (by simp [spec_l91Pages.j1])
   |succ kj26 =>
     have H:=HA.out
     clear HA
     simp only [spec_l91Pages.j1] at H
     have HC44:=Am H
     clear H
     go_upto_if 32 with (fail)
     go_cut [] (fun wc=>∃ (kq:Nat) (x1001_43:Int) (x144001_43:List Int) (u144001:Value),Aside0 (spec_l91Pages.j2 kq s0_0 x1001_43 x144000_1 x144001_43=some (r1,r2,r3))∧Aside0 (kq≤kj26)∧Aside0 (Kd.R Kd.string 9 wc w.heap.size (fun _=>True) u144000 x144000_1)∧Aside0 (Kd.R (Kd.int .i64) 3 wc w.heap.size (fun _=>True) u144001 x144001_43)∧Aside0 (wc.heap[Bh]?=some (.cells #[(.slice none 0 0),(.slice none 0 0)] 26 (0,0)))∧Aside0 (wc.heap[Bg]?=some (.cells #[u144000,u144001] 26 (0,0)))∧Aside0 (IsS83 w0 wc g s0_0 x1001_43)∧Aside0 (KeepBut w wc g none)∧Aside0 (Below w0.heap.size w0 wc))
     case first =>
      have H:=HC44.out
      clear HC44
      by_cases c45:x32_26=true
      rotate_left
      ·replace c45:=Bool.eq_false_iff.mpr c45
       subst c45
       have H1:(spec_l91Pages.j2 kj26 s0_0 x1001_26 x144000_1 x144001_1)=some (r1,r2,r3):=by rw [if_neg (show ¬ (false=true) by decide)] at H;exact H
       clear H
       have H:=H1
       clear H1
       have H':=Am H
       clear H
       go_wp2
       go_meet
       case rel=>exact ⟨_,(x1001_26),(x144001_1),(u144001),H',⟨by have:=HK1.out;have:=BM.out;first|omega|exact nR _⟩,⟨by (with_reducible repeat (first|apply rA|apply rN|apply rD));exact Bb.out⟩,⟨by (with_reducible repeat (first|apply rA|apply rN|apply rD));exact Ba.out⟩,⟨by (with_reducible repeat (first|refine bN ?_ _|refine bD ?_|refine bA ?_ _));exact Bd.out⟩,⟨by (with_reducible repeat (first|refine bN ?_ _|refine bD ?_|refine bA ?_ _));exact Bc.out⟩,⟨by repeat (first|(with_reducible first|exact HI0.out|apply IsS83.alloc|apply IsS83.drewN|apply IsS83.drew|apply IsS83.set_1|refine IsS83.far ?_ Be.out _|refine IsS83.far ?_ Bf.out _)|exact HI0.out)⟩,⟨by repeat (first|(with_reducible first|exact HK.out|apply KeepBut.set_|apply keep_drewN|apply keep_drew|apply keep_alloc|refine keep_far ?_ Bi.out _|refine keep_far ?_ Bj.out _)|exact HK.out)⟩,⟨by repeat (first|(with_reducible first|exact HB.out|apply oA|apply pN|apply o1|refine bS ?_ (IsS83.ge HI0.out)|refine bS ?_ Bk.out|refine bS ?_ Bl.out)|exact HB.out)⟩⟩
      subst c45
      have H1:((spec_l6Rd_pick.f kj26 s0_0 x1001_26 99).bind fun bt158=>(if 0<(x144001_1.length:Int) then (spec_l91Pages.j2 kj26 s0_0 bt158.2 x144000_1 (x144001_1.set (0:Int).toNat (wrap64 (1 + bt158.1)))) else (none)))=some (r1,r2,r3):=by rw [if_pos rfl] at H;exact H
      clear H
      have H:=H1
      clear H1
      replace H:=oC H
      obtain ⟨⟨t158,t159⟩,A460,H⟩:=H
      replace H:(if 0<(x144001_1.length:Int) then (spec_l91Pages.j2 kj26 s0_0 t159 x144000_1 (x144001_1.set (0:Int).toNat (wrap64 (1 + t158)))) else (none))=some (r1,r2,r3):=H
      have A46:=Am A460
      clear A460
      by_cases c47:0<(x144001_1.length:Int)
      rotate_left
      ·rw [if_neg c47] at H
       exact absurd H (by simp)
      rw [if_pos c47] at H
      have c47b0:decide (0<(x144001_1.length:Int))=true:=dT c47
      have c47b1:decide (0<x144001_1.length)=true:=dT (by omega)
      clear c47
      (first|rw [c47b0]|(simp only [i64_w,i32_w];rw [c47b0])|skip)
      obtain ⟨y160,hy160⟩:∃ y_:List Int,y_=(x144001_1.set (0:Int).toNat (wrap64 (1 + t158))):=⟨_,rfl⟩
      replace H:(spec_l91Pages.j2 kj26 s0_0 t159 x144000_1 y160)=some (r1,r2,r3):=by first|(rw [hy160];with_reducible exact H)|(have H2_:=(Option.bind_some _ _).symm.trans H;rw [hy160];with_reducible exact H2_)|(have H2_:=(Option.bind_some _ _).symm.trans H;with_reducible exact H2_)|with_reducible exact H|(rw [hy160];exact H)|exact H
      have Ny160:=Am hy160
      clear hy160
      have H':=Am H
      clear H
      try go_wp2
      have n0_:=Am (rD Bb.out)
      have n1_:=Am (rD Ba.out)
      have n2_:=Am (bD Bd.out)
      have n3_:=Am (bD Bc.out)
      have n4_:=Am (IsS83.drew HI0.out)
      have n5_:=Am (keep_drew HK.out)
      have n6_:=Am (o1 HB.out)
      clear Bb
      clear Ba
      clear Bd
      clear Bc
      clear HI0
      clear HK
      clear HB
      have Bb:=n0_
      have Ba:=n1_
      have Bd:=n2_
      have Bc:=n3_
      have HI0:=n4_
      have HK:=n5_
      have HB:=n6_
      clear n0_ n1_ n2_ n3_ n4_ n5_ n6_
      refine start_ (n:=7) (S:=fun w'=>w'.cell? ⟨Bg,0,none⟩=some (u144000)∧w'.cell? ⟨Bg,1,none⟩=some (u144001)) (ds:=[6]) #[false,false,false,false,false,false,false] (by kernel_rfl) rfl rfl ⟨(bC Bc.out 0).trans rfl,(bC Bc.out 1).trans rfl⟩ (fun hHeld=>?_)
      generalize wc.drew=w49 at Bb Ba Bd Bc HI0 HK HB hHeld ⊢
      refine pure_ (i:=0) (N:=some 33) (v:=?_) (a':=?_) #[true,false,false,false,false,false,false] rfl rfl (by kernel_rfl) (fun _ _ _ h=>h) (Or.inl ⟨by rfl,?_⟩) ?_ ?_
      rotate_left;(intro w';go_simp;with_reducible rfl)
      rotate_left;(simp only [Act.put,lA,lZ,lS,iw,jw];rfl)
      refine pure_ (i:=2) (N:=some 35) (v:=?_) (a':=?_) #[true,false,true,false,false,false,false] rfl rfl (by kernel_rfl) (fun _ _ _ h=>h) (Or.inl ⟨by rfl,?_⟩) ?_ ?_
      rotate_left;(intro w';go_simp;with_reducible rfl)
      rotate_left;(simp only [Act.put,lA,lZ,lS,iw,jw];rfl)
      refine take_ (i:=1) (N:=some 34) (v:=?_) (a':=?_) #[true,true,true,false,false,false,false] rfl rfl (by kernel_rfl) (fun _ _ _ h=>h) (Or.inl ⟨by rfl,?_⟩) hHeld ?_ ?_
      rotate_left;(rintro w' ⟨s0,s1⟩;go_simp;with_reducible rfl)
      rotate_left;(simp only [Act.put,lA,lZ,lS,iw,jw];rfl)
      refine one_ (i:=3) (N:=some 36) #[true,true,true,true,false,false,false] rfl rfl (by kernel_rfl) (by decide) (fun K hK=>?_)
      refine goes_ Try.func47 (by kernel_rfl) rfl #[.pointer (some ⟨g,0,none⟩),.int .i64 99] (by rfl) rfl rfl (by (try simp only [lM,lC,lN]);first|done|rfl|(simp only [lD,lT];rfl)) ?_
      with_reducible refine (spec_l6Rd_pick.calls kj26 g s0_0 x1001_26 99 t158 t159 w0 _ ?side1 ?side2 A46.out).mono ?_
      (case side1=>repeat (first|(with_reducible first|exact HI0.out|apply IsS83.alloc|apply IsS83.drewN|apply IsS83.drew|apply IsS83.set_1|refine IsS83.far ?_ Be.out _|refine IsS83.far ?_ Bf.out _)|exact HI0.out))
      (case side2=>repeat (first|(with_reducible first|exact HB.out|apply oA|apply pN|apply o1|refine bS ?_ (IsS83.ge HI0.out)|refine bS ?_ Bk.out|refine bS ?_ Bl.out)|exact HB.out))
      rintro e w50 ⟨rfl,hi,hb,hk⟩
      refine ⟨_,rfl,?_⟩
      have n0_:=Am (rM (Kd.R_keep (IsS83.apart (show IsS83 w0 _ g s0_0 x1001_26 from by repeat (first|(with_reducible first|exact HI0.out|apply IsS83.alloc|apply IsS83.drewN|apply IsS83.drew|apply IsS83.set_1|refine IsS83.far ?_ Be.out _|refine IsS83.far ?_ Bf.out _)|exact HI0.out)) (rL Bb.out) (by decide)) hk (fun _ h=>h.2)) (fun _ h=>h.1))
      have n1_:=Am (rM (Kd.R_keep (IsS83.apart (show IsS83 w0 _ g s0_0 x1001_26 from by repeat (first|(with_reducible first|exact HI0.out|apply IsS83.alloc|apply IsS83.drewN|apply IsS83.drew|apply IsS83.set_1|refine IsS83.far ?_ Be.out _|refine IsS83.far ?_ Bf.out _)|exact HI0.out)) (rL Ba.out) (by decide)) hk (fun _ h=>h.2)) (fun _ h=>h.1))
      have n2_:=Am (KeepBut.blk hk (g':=Bh) (o:=.cells #[.slice none 0 0,.slice none 0 0] 26 (0,0)) (bL Bd.out) Bo.out (by simp))
      have n3_:=Am (KeepBut.blk hk (g':=Bg) (o:=.cells #[u144000,u144001] 26 (0,0)) (bL Bc.out) Bn.out (by simp))
      have n4_:=Am (KeepBut.trans (by repeat (first|(with_reducible first|exact HK.out|apply KeepBut.set_|apply keep_drewN|apply keep_drew|apply keep_alloc|refine keep_far ?_ Bi.out _|refine keep_far ?_ Bj.out _)|exact HK.out)) hk (.inl rfl))
      have n5_:=Am (hb)
      have n6_:=Am (hi)
      clear Bb
      clear Ba
      clear Bd
      clear Bc
      clear HK
      clear HB
      clear HI0
      have Bb:=n0_
      have Ba:=n1_
      have Bd:=n2_
      have Bc:=n3_
      have HK:=n4_
      have HB:=n5_
      have HI0:=n6_
      clear n0_ n1_ n2_ n3_ n4_ n5_ n6_
      (try clear hb)
      (try clear hb2)
      (try clear hk)
      (try clear hi)
      have p48:0≤(0:Int):=(by omega)
      have q48:(0:Int)<((x144001_1.length:Int):Int):=oE (by first|(with_reducible assumption)|assumption)
      have qi48:(0<x144001_1.length)=True:=eq_true (by omega)
      obtain ⟨go48,co48,eo48,BN,gl48,cl48,HG48⟩:=Kd.R_form Ba.out (by omega)
      (first|cases eo48|(injection eo48 with ea_ en_ ec_;(first|subst ea_|(injection ea_ with ea_;subst ea_));subst ec_;clear en_))
      have GB48:=Am BN
      have GG48:=Am HG48
      clear BN gl48 HG48
      obtain ⟨hx48_0,hf48_0⟩:=Kd.R_celln 0 Ba.out (0:Int) p48 q48
      (try rw [show ((0:Int)).toNat=0 from rfl] at hx48_0)
      (try simp only [Nat.reduceMul,Nat.zero_mul,Nat.zero_add,Nat.reduceAdd] at hx48_0)
      (try rw [show ((0:Int)).toNat=0 from rfl] at hf48_0)
      (try simp only [Nat.reduceMul,Nat.zero_mul,Nat.zero_add,Nat.reduceAdd] at hf48_0)
      replace p48:=eq_true p48
      replace q48:=eq_true q48
      have HN0_go48:=Am (show g≠go48 from by have h_:=IsS83.own_ne HI0.out Ba.out (by decide);intro e_;exact h_ (by rw [e_];rfl))
      have HP51:=Kd.R_putn Ba.out (0:Int) (wrap64 (1 + t158))
      rw [← Ny160.out] at HP51
      have HQ51:=Am HP51
      clear HP51
      refine hK.out _ _ ⟨(bC Bc.out 0).trans rfl,(bC Bc.out 1).trans rfl⟩ (fun hHeld=>?_)
      clear hK K
      refine norm_ (by show Act.put _ (some 36) _=_;simp only [Act.put,lA,lZ,lS,iw,jw];rfl) ?_
      refine pure_ (i:=4) (N:=some 37) (v:=?_) (a':=?_) #[true,true,true,true,true,false,false] rfl rfl (by kernel_rfl) (fun _ _ _ h=>h) (Or.inl ⟨by rfl,?_⟩) ?_ ?_
      rotate_left;(intro w';go_simp;with_reducible rfl)
      rotate_left;(simp only [Act.put,lA,lZ,lS,iw,jw];rfl)
      refine pure_ (i:=5) (N:=some 38) (v:=?_) (a':=?_) #[true,true,true,true,true,true,false] rfl rfl (by kernel_rfl) (fun _ _ _ h=>h) (Or.inl ⟨by rfl,?_⟩) ?_ ?_
      rotate_left;(intro w';go_simp;with_reducible rfl)
      rotate_left;(simp only [Act.put,lA,lZ,lS,iw,jw];rfl)
      refine last_ (i:=6) (N:=none) #[true,true,true,true,true,true,true] rfl rfl (by kernel_rfl) (by decide) (fun K hK=>?_)
      refine skip_ (w1:=?_) (by rfl) rfl ?_ ?_
      rotate_left;(go_simp;rfl)
      refine hK.out _ _ ?_
      clear hK K
      refine done_ (by kernel_rfl) ?_
      try go_wp2
      go_meet
      case rel=>exact ⟨_,(t159),(y160),(.slice (some ⟨go48,0,none⟩) x144001_1.length co48),H',⟨by have:=HK1.out;have:=BM.out;first|omega|exact nR _⟩,⟨by (with_reducible repeat (first|apply rA|apply rN|apply rD));exact rM (rF (p:=⟨go48,0,none⟩) (rT Bb.out GG48.out (by decide)) (fun _ hk=>hk.2) (.int .i64 (wrap64 (1 + t158)))) (fun _ hk=>trivial)⟩,⟨by (with_reducible repeat (first|apply rA|apply rN|apply rD));exact HQ51.out⟩,⟨by (with_reducible repeat (first|refine bN ?_ _|refine bD ?_|refine bA ?_ _));refine bE ?_ (by have h_:=rE Ba.out Bd.out (by decide);intro e_;exact h_ (by rw [e_];rfl)) _;(with_reducible repeat (first|refine bN ?_ _|refine bD ?_|refine bA ?_ _));exact Bd.out⟩,⟨by (with_reducible repeat (first|refine bN ?_ _|refine bD ?_|refine bA ?_ _));refine bE ?_ (by have h_:=rE Ba.out Bc.out (by decide);intro e_;exact h_ (by rw [e_];rfl)) _;(with_reducible repeat (first|refine bN ?_ _|refine bD ?_|refine bA ?_ _));exact Bc.out⟩,⟨by repeat (first|(with_reducible first|exact HI0.out|apply IsS83.alloc|apply IsS83.drewN|apply IsS83.drew|apply IsS83.set_1|refine IsS83.far ?_ HN0_go48.out _|refine IsS83.far ?_ Be.out _|refine IsS83.far ?_ Bf.out _)|exact HI0.out)⟩,⟨by repeat (first|(with_reducible first|exact HK.out|apply KeepBut.set_|apply keep_drewN|apply keep_drew|apply keep_alloc|refine keep_far ?_ GB48.out _|refine keep_far ?_ Bi.out _|refine keep_far ?_ Bj.out _)|exact HK.out)⟩,⟨by repeat (first|(with_reducible first|exact HB.out|apply oA|apply pN|apply o1|refine bS ?_ (Nat.le_trans HL.out GB48.out)|refine bS ?_ (IsS83.ge HI0.out)|refine bS ?_ Bk.out|refine bS ?_ Bl.out)|exact HB.out)⟩⟩
     case rest =>
      clear HC44
      try clear c1
      try clear c2
      try clear p2
      try clear c3
      try clear c4
      try clear p4
      try clear q4
      try clear hx4
      try clear qi4
      try clear hf4
      try clear c5
      try clear c6
      try clear p6
      try clear c10
      try clear c11
      try clear c15
      try clear c15b0
      try clear c29
      try clear c31
      try clear c32
      try clear c38
      try clear c39
      try clear c41
      try clear c45
      try clear c47
      try clear c47b0
      try clear c47b1
      try clear p48
      try clear q48
      try clear hx48
      try clear qi48
      try clear hf48
      try clear c50
      try clear Bw
      try clear Bx
      try clear BA
      try clear BB
      try clear BE
      try clear BF
      try clear By
      try clear Bz
      try clear BC
      try clear BD
      try clear BG
      try clear BH
      try clear hx48_0
      try clear p2
      try clear p48
      try clear p6
      try clear q48
      obtain ⟨kq,x1001_43,x144001_43,u144001,HA,Fr,Bb,Ba,Bd,Bc,HI0,HK,HB⟩:=hcut
      cases kq with
     |zero=>exact absurd HA.out (by simp [spec_l91Pages.j2])
     |succ kj43 =>
       have H:=HA.out
       clear HA
       simp only [spec_l91Pages.j2] at H
       replace H:=oC H
       obtain ⟨⟨t161,t162⟩,A520,H⟩:=H
       replace H:(if t161=0 then ((some (([(-1),0,99,100]:List Int):List Int)).bind fun y163=>((spec_l6Rd_pick.f kj43 s0_0 t162 4).bind fun bt166=>(if 0≤bt166.1 then (if bt166.1<(y163.length:Int) then (if 0<(x144001_43.length:Int) then (some (x144000_1,(x144001_43.set (0:Int).toNat (rd y163 bt166.1)),bt166.2)) else (none)) else (none)) else (none)))) else (if t161=1 then (if 0≤(wrap64 ((x144000_1.length:Int) - 1)) then (if (wrap64 ((x144000_1.length:Int) - 1))<(x144000_1.length:Int) then (some ((x144000_1.set ((wrap64 ((x144000_1.length:Int) - 1)):Int).toNat (⟨#[116,111,111,108,111,110,103]⟩:ByteArray)),x144001_43,t162)) else (none)) else (none)) else (if t161=2 then (if x144001_43.length<17592186044416 then (some (x144000_1,(x144001_43 ++ [0]),t162)) else (none)) else (if t161=3 then ((some (([(⟨#[]⟩:ByteArray),(⟨#[]⟩:ByteArray),(⟨#[]⟩:ByteArray),(⟨#[]⟩:ByteArray),(⟨#[]⟩:ByteArray),(⟨#[]⟩:ByteArray),(⟨#[]⟩:ByteArray),(⟨#[]⟩:ByteArray),(⟨#[]⟩:ByteArray),(⟨#[]⟩:ByteArray),(⟨#[]⟩:ByteArray),(⟨#[]⟩:ByteArray)]:List ByteArray):List ByteArray)).bind fun y174=>(if x144000_1.length + y174.length<8796093022208 then ((some (([0,0,0,0,0,0,0,0,0,0,0,0]:List Int):List Int)).bind fun y180=>(if x144001_43.length + y180.length<17592186044416 then (some ((x144000_1 ++ y174),(x144001_43 ++ y180),t162)) else (none))) else (none))) else (some (x144000_1,x144001_43,t162))))))=some (r1,r2,r3):=H
       have A52:=Am A520
       clear A520
       by_cases c53:t161=0
       ·rw [if_pos c53] at H
        have c53b0:(t161 == 0)=true:=beq_iff_eq.mpr c53
        have c53b1:(t161 != 0)=false:=bne_eq_false_iff_eq.mpr c53
        clear c53
        obtain ⟨y163,hy163⟩:∃ y_:List Int,y_=(([(-1),0,99,100]:List Int)):=⟨_,rfl⟩
        replace H:((spec_l6Rd_pick.f kj43 s0_0 t162 4).bind fun bt166=>(if 0≤bt166.1 then (if bt166.1<(y163.length:Int) then (if 0<(x144001_43.length:Int) then (some (x144000_1,(x144001_43.set (0:Int).toNat (rd y163 bt166.1)),bt166.2)) else (none)) else (none)) else (none)))=some (r1,r2,r3):=by first|(rw [hy163];with_reducible exact H)|(have H2_:=(Option.bind_some _ _).symm.trans H;rw [hy163];with_reducible exact H2_)|(have H2_:=(Option.bind_some _ _).symm.trans H;with_reducible exact H2_)|with_reducible exact H|(rw [hy163];exact H)|exact H
        have Ny163:=Am hy163
        clear hy163
        replace H:=oC H
        obtain ⟨⟨t166,t167⟩,A540,H⟩:=H
        replace H:(if 0≤t166 then (if t166<(y163.length:Int) then (if 0<(x144001_43.length:Int) then (some (x144000_1,(x144001_43.set (0:Int).toNat (rd y163 t166)),t167)) else (none)) else (none)) else (none))=some (r1,r2,r3):=H
        have A54:=Am A540
        clear A540
        by_cases c55:0≤t166
        rotate_left
        ·rw [if_neg c55] at H
         exact absurd H (by simp)
        rw [if_pos c55] at H
        have c55b0:decide (0≤t166)=true:=dT c55
        clear c55
        by_cases c56:t166<(y163.length:Int)
        rotate_left
        ·rw [if_neg c56] at H
         exact absurd H (by simp)
        rw [if_pos c56] at H
        have c56b0:decide (t166<(y163.length:Int))=true:=dT c56
        clear c56
        by_cases c57:0<(x144001_43.length:Int)
        rotate_left
        ·rw [if_neg c57] at H
         exact absurd H (by simp)
        rw [if_pos c57] at H
        have c57b0:decide (0<(x144001_43.length:Int))=true:=dT c57
        have c57b1:decide (0<x144001_43.length)=true:=dT (by omega)
        clear c57
        obtain ⟨y169,hy169⟩:∃ y_:List Int,y_=(x144001_43.set (0:Int).toNat (rd y163 t166)):=⟨_,rfl⟩
        replace H:(some (x144000_1,y169,t167))=some (r1,r2,r3):=by first|(rw [hy169];with_reducible exact H)|(have H2_:=(Option.bind_some _ _).symm.trans H;rw [hy169];with_reducible exact H2_)|(have H2_:=(Option.bind_some _ _).symm.trans H;with_reducible exact H2_)|with_reducible exact H|(rw [hy169];exact H)|exact H
        have Ny169:=Am hy169
        clear hy169
        simp only [Option.some.injEq,Prod.mk.injEq] at H
        obtain ⟨rfl,rfl,rfl⟩:=H
        try go_wp2_with (first|((with_reducible refine gC (f:=47) rfl ?_);refine goesL_ (some 40) rfl rfl Try.func47 (by kernel_rfl) rfl #[.pointer (some ⟨g,0,none⟩),.int .i64 16] rfl (by (try simp only [lM,lC,lN]);first|done|rfl|(simp only [lD,lT];rfl)) ?_;(with_reducible refine (spec_l6Rd_pick.calls kj43 g s0_0 x1001_43 16 t161 t162 w0 _ ?side1 ?side2 A52.out).mono ?_);(case side1=>repeat (first|(with_reducible first|exact HI0.out|apply IsS83.alloc|apply IsS83.drewN|apply IsS83.drew|apply IsS83.set_1|refine IsS83.far ?_ Be.out _|refine IsS83.far ?_ Bf.out _)|exact HI0.out));(case side2=>repeat (first|(with_reducible first|exact HB.out|apply oA|apply pN|apply o1|refine bS ?_ (IsS83.ge HI0.out)|refine bS ?_ Bk.out|refine bS ?_ Bl.out)|exact HB.out));rintro e w59 ⟨rfl,hi,hb,hk⟩;refine ⟨_,rfl,?_⟩;have n0_:=Am (rM (Kd.R_keep (IsS83.apart (show IsS83 w0 _ g s0_0 x1001_43 from by repeat (first|(with_reducible first|exact HI0.out|apply IsS83.alloc|apply IsS83.drewN|apply IsS83.drew|apply IsS83.set_1|refine IsS83.far ?_ Be.out _|refine IsS83.far ?_ Bf.out _)|exact HI0.out)) (rL Bb.out) (by decide)) hk (fun _ h=>h.2)) (fun _ h=>h.1));have n1_:=Am (rM (Kd.R_keep (IsS83.apart (show IsS83 w0 _ g s0_0 x1001_43 from by repeat (first|(with_reducible first|exact HI0.out|apply IsS83.alloc|apply IsS83.drewN|apply IsS83.drew|apply IsS83.set_1|refine IsS83.far ?_ Be.out _|refine IsS83.far ?_ Bf.out _)|exact HI0.out)) (rL Ba.out) (by decide)) hk (fun _ h=>h.2)) (fun _ h=>h.1));have n2_:=Am (KeepBut.blk hk (g':=Bh) (o:=.cells #[.slice none 0 0,.slice none 0 0] 26 (0,0)) (bL Bd.out) Bo.out (by simp));have n3_:=Am (KeepBut.blk hk (g':=Bg) (o:=.cells #[u144000,u144001] 26 (0,0)) (bL Bc.out) Bn.out (by simp));have n4_:=Am (KeepBut.trans (by repeat (first|(with_reducible first|exact HK.out|apply KeepBut.set_|apply keep_drewN|apply keep_drew|apply keep_alloc|refine keep_far ?_ Bi.out _|refine keep_far ?_ Bj.out _)|exact HK.out)) hk (.inl rfl));have n5_:=Am (hb);have n6_:=Am (hi);clear Bb Ba Bd Bc HK HB HI0;revert n0_ n1_ n2_ n3_ n4_ n5_ n6_;intro Bb Ba Bd Bc HK HB HI0;(try clear hb);(try clear hb2);(try clear hk);(try clear hi)))
        have pi168:(0≤(t166:Int))=True:=eq_true (oE (by first|(with_reducible assumption)|assumption))
        have qi168:(t166<(y163.length:Int))=True:=eq_true (oE (by first|(with_reducible assumption)|assumption))
        have n0_:=Am (rD Bb.out)
        have n1_:=Am (rD Ba.out)
        have n2_:=Am (bD Bd.out)
        have n3_:=Am (bD Bc.out)
        have n4_:=Am (IsS83.drew HI0.out)
        have n5_:=Am (keep_drew HK.out)
        have n6_:=Am (o1 HB.out)
        clear Bb
        clear Ba
        clear Bd
        clear Bc
        clear HI0
        clear HK
        clear HB
        have Bb:=n0_
        have Ba:=n1_
        have Bd:=n2_
        have Bc:=n3_
        have HI0:=n4_
        have HK:=n5_
        have HB:=n6_
        clear n0_ n1_ n2_ n3_ n4_ n5_ n6_
        refine start_ (n:=9) (S:=fun w'=>w'.cell? ⟨Bg,0,none⟩=some (u144000)∧w'.cell? ⟨Bg,1,none⟩=some (u144001)) (ds:=[8]) z41q9 (by kernel_rfl) rfl rfl ⟨(bC Bc.out 0).trans rfl,(bC Bc.out 1).trans rfl⟩ (fun hHeld=>?_);refine with_st spec_l91Pages.tab10 spec_l91Pages.bits10 (fun _ _ _ _ _ h=>h) (fun HT_=>?_)
        generalize w59.drew=w60 at Bb Ba Bd Bc HI0 HK HB hHeld ⊢
        refine pS 0 43 z41q10 HT_ rfl rfl (by kernel_rfl) (by rfl) (by intro w';go_simp;with_reducible rfl) (by simp only [Act.put,lA,lZ,lS,iw,jw];rfl) ?_
        refine pS 3 46 z41q11 HT_ rfl rfl (by kernel_rfl) (by rfl) (by intro w';go_simp;with_reducible rfl) (by simp only [Act.put,lA,lZ,lS,iw,jw];rfl) ?_
        refine tS 1 44 z41q12 HT_ hHeld rfl rfl (by kernel_rfl) (by rfl) (by rintro w' ⟨s0,s1⟩;go_simp;with_reducible rfl) (by simp only [Act.put,lA,lZ,lS,iw,jw];rfl) ?_
        refine join_ (σ:=Value × Addr) 4 z41q13 (fun s_=>[(45,s_.1),(47,.int .i64 t166)]) (fun s_ w'=>(w'.cell? ⟨Bg,0,none⟩=some (u144000)∧w'.cell? ⟨Bg,1,none⟩=some (u144001))∧(Kd.R (Kd.int .i64) 3 w' w.heap.size (fun k_=>some k_≠(u144001:Value).ownBlock) s_.1 y163)∧(Kd.R Kd.string 9 w' w.heap.size (fun _=>True) u144000 x144000_1)∧(Kd.R (Kd.int .i64) 3 w' w.heap.size (fun k_=>some k_≠(s_.1:Value).ownBlock) u144001 x144001_43)∧(∃ c_,(s_.1:Value)=.slice (some s_.2) y163.length c_)∧(w'.heap[Bh]?=some (.cells #[.slice none 0 0,.slice none 0 0] 26 (0,0)))∧(w'.heap[Bg]?=some (.cells #[u144000,u144001] 26 (0,0)))∧(IsS83 w0 w' g s0_0 t167)∧(KeepBut w w' g none)∧(Below w0.heap.size w0 w')) ?_ ?_
        rotate_left
        ·intro hCont
         refine two_ (i:=2) (j:=4) (Ni:=some 45) (Nj:=some 47) z41q14 z41q15 rfl rfl rfl rfl (two_of HT_.out (by kernel_rfl)) (by decide) (by decide) (fun K hK=>?_) (fun K hK=>?_)
         ·skip
          refine Kd.R_lit_step (Kd.int .i64) _ 3 ?hg (N:=45) ?hd (xs:=([(-1),0,99,100]:List Int)) (inner:=[.int .i64 (-1),.int .i64 0,.int .i64 99,.int .i64 100]) (ok:=fun _=>True) (okp:=fun _=>True) ?hr ?hp (fun _ hk=>hk) trivial (bJ _ _) (nR _) (by simp) ?_;(case hd=>rfl);(case hg=>rfl);(case hr=>first|(go_simp;done)|(go_simp;rfl));(case hp=>exact (Reps.one (show Kd.M (Kd.int .i64) _ _ _ (-1) [.int .i64 (-1)] from rfl) (Reps.one (show Kd.M (Kd.int .i64) _ _ _ 0 [.int .i64 0] from rfl) (Reps.one (show Kd.M (Kd.int .i64) _ _ _ 99 [.int .i64 99] from rfl) (Reps.one (show Kd.M (Kd.int .i64) _ _ _ 100 [.int .i64 100] from rfl) (Reps.none _ _))))))
          intro v164 w61 ho62 hb hg_ hnew_
          clear hg_ hnew_
          (first|rw [← Ny163.out] at ho62|(simp only [Int.reduceToNat] at ho62;rw [← Ny163.out] at ho62))
          have n0_:=Am (rB (rL Bb.out) hb)
          have n1_:=Am (rX (rL Ba.out) (rZ ho62) hb)
          have n2_:=Am (rW (rQ ho62 (rI (rL Ba.out))) (keep_size (w:=w) (g:=g) (row:=none) (by repeat (first|(with_reducible first|exact HK.out|apply KeepBut.set_|apply keep_drewN|apply keep_drew|apply keep_alloc|refine keep_far ?_ Bi.out _|refine keep_far ?_ Bj.out _)|exact HK.out))))
          have n3_:=Am (bX Bd.out hb)
          have n4_:=Am (bX Bc.out hb)
          have n5_:=Am (IsS83.below (by repeat (first|(with_reducible first|exact HI0.out|apply IsS83.alloc|apply IsS83.drewN|apply IsS83.drew|apply IsS83.set_1|refine IsS83.far ?_ Be.out _|refine IsS83.far ?_ Bf.out _)|exact HI0.out)) hb)
          have n6_:=Am (KeepBut.trans (by repeat (first|(with_reducible first|exact HK.out|apply KeepBut.set_|apply keep_drewN|apply keep_drew|apply keep_alloc|refine keep_far ?_ Bi.out _|refine keep_far ?_ Bj.out _)|exact HK.out)) (KeepBut.of_below hb g none) (.inl rfl))
          have n7_:=Am (bP (by repeat (first|(with_reducible first|exact HB.out|apply oA|apply pN|apply o1|refine bS ?_ (IsS83.ge HI0.out)|refine bS ?_ Bk.out|refine bS ?_ Bl.out)|exact HB.out)) hb)
          clear Bb
          clear Ba
          clear Bd
          clear Bc
          clear HI0
          clear HK
          clear HB
          have Bb:=n0_
          have Ba:=n1_
          have Bq:=n2_
          have Bd:=n3_
          have Bc:=n4_
          have HI0:=n5_
          have HK:=n6_
          have HB:=n7_
          clear n0_ n1_ n2_ n3_ n4_ n5_ n6_ n7_
          clear hb ho62
          obtain ⟨Ao63,co63,eo63⟩:=rC Bq.out
          subst eo63
          obtain ⟨ado63,fo63,_⟩:=Kd.at_int (rR Bq.out).2.2 0 (by decide) (by rw [Ny163.out];simp)
          cases fo63
          refine hK.out _ _ ⟨(bC Bc.out 0).trans rfl,(bC Bc.out 1).trans rfl⟩ (fun hHeld=>?_)
          clear hK K
          refine norm_ (by show Act.put _ (some 45) _=_;simp only [Act.put,lA,lZ,lS,iw,jw];rfl) ?_
          refine oS 4 47 z41q13 HT_ rfl rfl (by kernel_rfl) (by decide) (fun K hK=>?_)
          refine goes_ Try.func47 (by kernel_rfl) rfl #[.pointer (some ⟨g,0,none⟩),.int .i64 4] (by rfl) rfl rfl (by (try simp only [lM,lC,lN]);first|done|rfl|(simp only [lD,lT];rfl)) ?_
          with_reducible refine (spec_l6Rd_pick.calls kj43 g s0_0 t162 4 t166 t167 w0 _ ?side1 ?side2 A54.out).mono ?_
          (case side1=>repeat (first|(with_reducible first|exact HI0.out|apply IsS83.alloc|apply IsS83.drewN|apply IsS83.drew|apply IsS83.set_1|refine IsS83.far ?_ Be.out _|refine IsS83.far ?_ Bf.out _)|exact HI0.out))
          (case side2=>repeat (first|(with_reducible first|exact HB.out|apply oA|apply pN|apply o1|refine bS ?_ (IsS83.ge HI0.out)|refine bS ?_ Bk.out|refine bS ?_ Bl.out)|exact HB.out))
          rintro e w64 ⟨rfl,hi,hb,hk⟩
          refine ⟨_,rfl,?_⟩
          have n0_:=Am (rM (Kd.R_keep (IsS83.apart (show IsS83 w0 _ g s0_0 t162 from by repeat (first|(with_reducible first|exact HI0.out|apply IsS83.alloc|apply IsS83.drewN|apply IsS83.drew|apply IsS83.set_1|refine IsS83.far ?_ Be.out _|refine IsS83.far ?_ Bf.out _)|exact HI0.out)) (rL Bb.out) (by decide)) hk (fun _ h=>h.2)) (fun _ h=>h.1))
          have n1_:=Am (rM (Kd.R_keep (IsS83.apart (show IsS83 w0 _ g s0_0 t162 from by repeat (first|(with_reducible first|exact HI0.out|apply IsS83.alloc|apply IsS83.drewN|apply IsS83.drew|apply IsS83.set_1|refine IsS83.far ?_ Be.out _|refine IsS83.far ?_ Bf.out _)|exact HI0.out)) (rL Ba.out) (by decide)) hk (fun _ h=>h.2)) (fun _ h=>h.1))
          have n2_:=Am (KeepBut.blk hk (g':=Bh) (o:=.cells #[.slice none 0 0,.slice none 0 0] 26 (0,0)) (bL Bd.out) Bo.out (by simp))
          have n3_:=Am (KeepBut.blk hk (g':=Bg) (o:=.cells #[u144000,u144001] 26 (0,0)) (bL Bc.out) Bn.out (by simp))
          have n4_:=Am (rM (Kd.R_keep (IsS83.apart (show IsS83 w0 _ g s0_0 t162 from by repeat (first|(with_reducible first|exact HI0.out|apply IsS83.alloc|apply IsS83.drewN|apply IsS83.drew|apply IsS83.set_1|refine IsS83.far ?_ Be.out _|refine IsS83.far ?_ Bf.out _)|exact HI0.out)) (rL Bq.out) (by decide)) hk (fun _ h=>h.2)) (fun _ h=>h.1))
          have n5_:=Am (KeepBut.trans (by repeat (first|(with_reducible first|exact HK.out|apply KeepBut.set_|apply keep_drewN|apply keep_drew|apply keep_alloc|refine keep_far ?_ Bi.out _|refine keep_far ?_ Bj.out _)|exact HK.out)) hk (.inl rfl))
          have n6_:=Am (hb)
          have n7_:=Am (hi)
          clear Bb
          clear Ba
          clear Bd
          clear Bc
          clear Bq
          clear HK
          clear HB
          clear HI0
          have Bb:=n0_
          have Ba:=n1_
          have Bd:=n2_
          have Bc:=n3_
          have Bq:=n4_
          have HK:=n5_
          have HB:=n6_
          have HI0:=n7_
          clear n0_ n1_ n2_ n3_ n4_ n5_ n6_ n7_
          (try clear hb)
          (try clear hb2)
          (try clear hk)
          (try clear hi)
          refine hK.out _ _ ⟨(bC Bc.out 0).trans rfl,(bC Bc.out 1).trans rfl⟩ (fun hHeld=>?_)
          clear hK K
          refine norm_ (by show Act.put _ (some 47) _=_;simp only [Act.put,lA,lZ,lS,iw,jw];rfl) ?_
          exact norm_ (by simp only [putAll,Act.put,lA,lZ,lS]) (hCont (.slice (some ado63) y163.length co63,ado63) _ ⟨hHeld,(by (with_reducible repeat (first|apply rA|apply rN|apply rD));exact rM Bq.out (fun _ hk=>hk.2)),(rL Bb.out),(by (with_reducible repeat (first|apply rA|apply rN|apply rD));exact rM Ba.out (fun _ hk=>hk.2)),⟨_,rfl⟩,(bL Bd.out),(bL Bc.out),(by repeat (first|(with_reducible first|exact HI0.out|apply IsS83.alloc|apply IsS83.drewN|apply IsS83.drew|apply IsS83.set_1|refine IsS83.far ?_ Be.out _|refine IsS83.far ?_ Bf.out _)|exact HI0.out)),(by repeat (first|(with_reducible first|exact HK.out|apply KeepBut.set_|apply keep_drewN|apply keep_drew|apply keep_alloc|refine keep_far ?_ Bi.out _|refine keep_far ?_ Bj.out _)|exact HK.out)),(by repeat (first|(with_reducible first|exact HB.out|apply oA|apply pN|apply o1|refine bS ?_ (IsS83.ge HI0.out)|refine bS ?_ Bk.out|refine bS ?_ Bl.out)|exact HB.out))⟩)
         ·skip
          refine goes_ Try.func47 (by kernel_rfl) rfl #[.pointer (some ⟨g,0,none⟩),.int .i64 4] (by rfl) rfl rfl (by (try simp only [lM,lC,lN]);first|done|rfl|(simp only [lD,lT];rfl)) ?_
          with_reducible refine (spec_l6Rd_pick.calls kj43 g s0_0 t162 4 t166 t167 w0 _ ?side1 ?side2 A54.out).mono ?_
          (case side1=>repeat (first|(with_reducible first|exact HI0.out|apply IsS83.alloc|apply IsS83.drewN|apply IsS83.drew|apply IsS83.set_1|refine IsS83.far ?_ Be.out _|refine IsS83.far ?_ Bf.out _)|exact HI0.out))
          (case side2=>repeat (first|(with_reducible first|exact HB.out|apply oA|apply pN|apply o1|refine bS ?_ (IsS83.ge HI0.out)|refine bS ?_ Bk.out|refine bS ?_ Bl.out)|exact HB.out))
          rintro e w61 ⟨rfl,hi,hb,hk⟩
          refine ⟨_,rfl,?_⟩
          have n0_:=Am (rM (Kd.R_keep (IsS83.apart (show IsS83 w0 _ g s0_0 t162 from by repeat (first|(with_reducible first|exact HI0.out|apply IsS83.alloc|apply IsS83.drewN|apply IsS83.drew|apply IsS83.set_1|refine IsS83.far ?_ Be.out _|refine IsS83.far ?_ Bf.out _)|exact HI0.out)) (rL Bb.out) (by decide)) hk (fun _ h=>h.2)) (fun _ h=>h.1))
          have n1_:=Am (rM (Kd.R_keep (IsS83.apart (show IsS83 w0 _ g s0_0 t162 from by repeat (first|(with_reducible first|exact HI0.out|apply IsS83.alloc|apply IsS83.drewN|apply IsS83.drew|apply IsS83.set_1|refine IsS83.far ?_ Be.out _|refine IsS83.far ?_ Bf.out _)|exact HI0.out)) (rL Ba.out) (by decide)) hk (fun _ h=>h.2)) (fun _ h=>h.1))
          have n2_:=Am (KeepBut.blk hk (g':=Bh) (o:=.cells #[.slice none 0 0,.slice none 0 0] 26 (0,0)) (bL Bd.out) Bo.out (by simp))
          have n3_:=Am (KeepBut.blk hk (g':=Bg) (o:=.cells #[u144000,u144001] 26 (0,0)) (bL Bc.out) Bn.out (by simp))
          have n4_:=Am (KeepBut.trans (by repeat (first|(with_reducible first|exact HK.out|apply KeepBut.set_|apply keep_drewN|apply keep_drew|apply keep_alloc|refine keep_far ?_ Bi.out _|refine keep_far ?_ Bj.out _)|exact HK.out)) hk (.inl rfl))
          have n5_:=Am (hb)
          have n6_:=Am (hi)
          clear Bb
          clear Ba
          clear Bd
          clear Bc
          clear HK
          clear HB
          clear HI0
          have Bb:=n0_
          have Ba:=n1_
          have Bd:=n2_
          have Bc:=n3_
          have HK:=n4_
          have HB:=n5_
          have HI0:=n6_
          clear n0_ n1_ n2_ n3_ n4_ n5_ n6_
          (try clear hb)
          (try clear hb2)
          (try clear hk)
          (try clear hi)
          refine hK.out _ _ ⟨(bC Bc.out 0).trans rfl,(bC Bc.out 1).trans rfl⟩ (fun hHeld=>?_)
          clear hK K
          refine norm_ (by show Act.put _ (some 47) _=_;simp only [Act.put,lA,lZ,lS,iw,jw];rfl) ?_
          refine oS 2 45 z41q13 HT_ rfl rfl (by kernel_rfl) (by decide) (fun K hK=>?_)
          refine Kd.R_lit_step (Kd.int .i64) _ 3 ?hg (N:=45) ?hd (xs:=([(-1),0,99,100]:List Int)) (inner:=[.int .i64 (-1),.int .i64 0,.int .i64 99,.int .i64 100]) (ok:=fun _=>True) (okp:=fun _=>True) ?hr ?hp (fun _ hk=>hk) trivial (bJ _ _) (nR _) (by simp) ?_;(case hd=>rfl);(case hg=>rfl);(case hr=>first|(go_simp;done)|(go_simp;rfl));(case hp=>exact (Reps.one (show Kd.M (Kd.int .i64) _ _ _ (-1) [.int .i64 (-1)] from rfl) (Reps.one (show Kd.M (Kd.int .i64) _ _ _ 0 [.int .i64 0] from rfl) (Reps.one (show Kd.M (Kd.int .i64) _ _ _ 99 [.int .i64 99] from rfl) (Reps.one (show Kd.M (Kd.int .i64) _ _ _ 100 [.int .i64 100] from rfl) (Reps.none _ _))))))
          intro v164 w62 ho63 hb hg_ hnew_
          clear hg_ hnew_
          (first|rw [← Ny163.out] at ho63|(simp only [Int.reduceToNat] at ho63;rw [← Ny163.out] at ho63))
          have n0_:=Am (rB (rL Bb.out) hb)
          have n1_:=Am (rX (rL Ba.out) (rZ ho63) hb)
          have n2_:=Am (rW (rQ ho63 (rI (rL Ba.out))) (keep_size (w:=w) (g:=g) (row:=none) (by repeat (first|(with_reducible first|exact HK.out|apply KeepBut.set_|apply keep_drewN|apply keep_drew|apply keep_alloc|refine keep_far ?_ Bi.out _|refine keep_far ?_ Bj.out _)|exact HK.out))))
          have n3_:=Am (bX Bd.out hb)
          have n4_:=Am (bX Bc.out hb)
          have n5_:=Am (IsS83.below (by repeat (first|(with_reducible first|exact HI0.out|apply IsS83.alloc|apply IsS83.drewN|apply IsS83.drew|apply IsS83.set_1|refine IsS83.far ?_ Be.out _|refine IsS83.far ?_ Bf.out _)|exact HI0.out)) hb)
          have n6_:=Am (KeepBut.trans (by repeat (first|(with_reducible first|exact HK.out|apply KeepBut.set_|apply keep_drewN|apply keep_drew|apply keep_alloc|refine keep_far ?_ Bi.out _|refine keep_far ?_ Bj.out _)|exact HK.out)) (KeepBut.of_below hb g none) (.inl rfl))
          have n7_:=Am (bP (by repeat (first|(with_reducible first|exact HB.out|apply oA|apply pN|apply o1|refine bS ?_ (IsS83.ge HI0.out)|refine bS ?_ Bk.out|refine bS ?_ Bl.out)|exact HB.out)) hb)
          clear Bb
          clear Ba
          clear Bd
          clear Bc
          clear HI0
          clear HK
          clear HB
          have Bb:=n0_
          have Ba:=n1_
          have Bq:=n2_
          have Bd:=n3_
          have Bc:=n4_
          have HI0:=n5_
          have HK:=n6_
          have HB:=n7_
          clear n0_ n1_ n2_ n3_ n4_ n5_ n6_ n7_
          clear hb ho63
          obtain ⟨Ao64,co64,eo64⟩:=rC Bq.out
          subst eo64
          obtain ⟨ado64,fo64,_⟩:=Kd.at_int (rR Bq.out).2.2 0 (by decide) (by rw [Ny163.out];simp)
          cases fo64
          refine hK.out _ _ ⟨(bC Bc.out 0).trans rfl,(bC Bc.out 1).trans rfl⟩ (fun hHeld=>?_)
          clear hK K
          refine norm_ (by show Act.put _ (some 45) _=_;simp only [Act.put,lA,lZ,lS,iw,jw];rfl) ?_
          exact norm_ (by simp only [putAll,Act.put,lA,lZ,lS]) (hCont (.slice (some ado64) y163.length co64,ado64) _ ⟨hHeld,(by (with_reducible repeat (first|apply rA|apply rN|apply rD));exact rM Bq.out (fun _ hk=>hk.2)),(rL Bb.out),(by (with_reducible repeat (first|apply rA|apply rN|apply rD));exact rM Ba.out (fun _ hk=>hk.2)),⟨_,rfl⟩,(bL Bd.out),(bL Bc.out),(by repeat (first|(with_reducible first|exact HI0.out|apply IsS83.alloc|apply IsS83.drewN|apply IsS83.drew|apply IsS83.set_1|refine IsS83.far ?_ Be.out _|refine IsS83.far ?_ Bf.out _)|exact HI0.out)),(by repeat (first|(with_reducible first|exact HK.out|apply KeepBut.set_|apply keep_drewN|apply keep_drew|apply keep_alloc|refine keep_far ?_ Bi.out _|refine keep_far ?_ Bj.out _)|exact HK.out)),(by repeat (first|(with_reducible first|exact HB.out|apply oA|apply pN|apply o1|refine bS ?_ (IsS83.ge HI0.out)|refine bS ?_ Bk.out|refine bS ?_ Bl.out)|exact HB.out))⟩)
        rintro ⟨v164,adz_v164⟩ w65 ⟨hS_,h0_,h1_,h2_,h3_,h4_,h5_,h6_,h7_,h8_⟩
        have n0_:Aside0 (Kd.R (Kd.int .i64) 3 w65 w.heap.size (fun k_=>some k_≠(u144001:Value).ownBlock) v164 y163):=⟨h0_⟩
        have n1_:Aside0 (Kd.R Kd.string 9 w65 w.heap.size (fun _=>True) u144000 x144000_1):=⟨h1_⟩
        have n2_:Aside0 (Kd.R (Kd.int .i64) 3 w65 w.heap.size (fun k_=>some k_≠(v164:Value).ownBlock) u144001 x144001_43):=⟨h2_⟩
        have n3_:Aside0 (∃ c_,(v164:Value)=.slice (some adz_v164) y163.length c_):=⟨h3_⟩
        have n4_:Aside0 (w65.heap[Bh]?=some (.cells #[.slice none 0 0,.slice none 0 0] 26 (0,0))):=⟨h4_⟩
        have n5_:Aside0 (w65.heap[Bg]?=some (.cells #[u144000,u144001] 26 (0,0))):=⟨h5_⟩
        have n6_:Aside0 (IsS83 w0 w65 g s0_0 t167):=⟨h6_⟩
        have n7_:Aside0 (KeepBut w w65 g none):=⟨h7_⟩
        have n8_:Aside0 (Below w0.heap.size w0 w65):=⟨h8_⟩
        clear Bb
        clear Ba
        clear Bd
        clear Bc
        clear HI0
        clear HK
        clear HB
        clear h0_ h1_ h2_ h3_ h4_ h5_ h6_ h7_ h8_
        have Bq:=n0_
        have Bb:=n1_
        have Ba:=n2_
        have HA_HO165:=n3_
        have Bd:=n4_
        have Bc:=n5_
        have HI0:=n6_
        have HK:=n7_
        have HB:=n8_
        clear n0_ n1_ n2_ n3_ n4_ n5_ n6_ n7_ n8_
        have hHeld:w65.cell? ⟨Bg,0,none⟩=some (u144000)∧w65.cell? ⟨Bg,1,none⟩=some (u144001):=hS_
        obtain ⟨co66,eo66⟩:=HA_HO165.out
        clear HA_HO165
        subst eo66
        have p58:0≤(0:Int):=(by omega)
        have q58:(0:Int)<((x144001_43.length:Int):Int):=oE (by first|(with_reducible assumption)|assumption)
        have qi58:(0<x144001_43.length)=True:=eq_true (by omega)
        obtain ⟨go58,co58,eo58,BO,gl58,cl58,HG58⟩:=Kd.R_form Ba.out (by omega)
        (first|cases eo58|(injection eo58 with ea_ en_ ec_;(first|subst ea_|(injection ea_ with ea_;subst ea_));subst ec_;clear en_))
        have GB58:=Am BO
        have GG58:=Am HG58
        clear BO gl58 HG58
        obtain ⟨hx58_0,hf58_0⟩:=Kd.R_celln 0 Ba.out (0:Int) p58 q58
        (try rw [show ((0:Int)).toNat=0 from rfl] at hx58_0)
        (try simp only [Nat.reduceMul,Nat.zero_mul,Nat.zero_add,Nat.reduceAdd] at hx58_0)
        (try rw [show ((0:Int)).toNat=0 from rfl] at hf58_0)
        (try simp only [Nat.reduceMul,Nat.zero_mul,Nat.zero_add,Nat.reduceAdd] at hf58_0)
        replace p58:=eq_true p58
        replace q58:=eq_true q58
        have HN0_go58:=Am (show g≠go58 from by have h_:=IsS83.own_ne HI0.out Ba.out (by decide);intro e_;exact h_ (by rw [e_];rfl))
        have HP67:=Kd.R_putn Ba.out (0:Int) (rd y163 t166)
        rw [← Ny169.out] at HP67
        have HQ67:=Am HP67
        clear HP67
        refine norm_ (by simp only [putAll,Act.put,lA,lZ,lS];rfl) ?_
        refine pS 5 48 z41q16 HT_ rfl rfl (by kernel_rfl) (by rfl) (by intro w';go_simp;with_reducible rfl) (by simp only [Act.put,lA,lZ,lS,iw,jw];rfl) ?_
        refine oS 6 49 z41q17 HT_ rfl rfl (by kernel_rfl) (by decide) (fun K hK=>?_)
        (have p168:0≤(t166:Int):=oE (by first|(with_reducible assumption)|assumption);have q168:t166<(y163.length:Int):=oE (by first|(with_reducible assumption)|assumption);obtain ⟨ad168,e168,hx168_0⟩:=Kd.at_int (rR Bq.out).2.2 t166 p168 q168;obtain rfl:adz_v164=ad168:=(by injection e168))
        refine value_ (w1:=?_) (v:=?_) (by rfl) rfl ?_ ?_
        rotate_left 2
        ·go_simp
         constructor
         ·rfl
         ·rfl
        clear hx168_0
        refine hK.out _ _ ⟨(bC Bc.out 0).trans rfl,(bC Bc.out 1).trans rfl⟩ (fun hHeld=>?_)
        clear hK K
        refine norm_ (by show Act.put _ (some 49) _=_;simp only [Act.put,lA,lZ,lS,iw,jw];rfl) ?_
        refine pS 7 50 z41q18 HT_ rfl rfl (by kernel_rfl) (by rfl) (by intro w';go_simp;with_reducible rfl) (by simp only [Act.put,lA,lZ,lS,iw,jw];rfl) ?_
        refine last_ (i:=8) (N:=none) z41q19 rfl rfl (one_of HT_.out (by kernel_rfl)) (by decide) (fun K hK=>?_)
        refine skip_ (w1:=?_) (by rfl) rfl ?_ ?_
        rotate_left;(go_simp;rfl)
        refine hK.out _ _ ?_
        clear hK K
        refine done_ (done_of HT_.out (by kernel_rfl)) ?_
        have n0_:Aside0 (Kd.R Kd.string 9 (w65.setCell ⟨go58,0,none⟩ (.int .i64 (rd y163 t166))) w.heap.size (fun _=>True) u144000 x144000_1):=⟨by (with_reducible repeat (first|apply rA|apply rN|apply rD));exact rM (rF (p:=⟨go58,0,none⟩) (rT Bb.out GG58.out (by decide)) (fun _ hk=>hk.2) (.int .i64 (rd y163 t166))) (fun _ hk=>trivial)⟩
        have n1_:Aside0 (Kd.R (Kd.int .i64) 3 (w65.setCell ⟨go58,0,none⟩ (.int .i64 (rd y163 t166))) w.heap.size (fun k_=>some k_≠(.slice (some adz_v164) y163.length co66:Value).ownBlock) (.slice (some ⟨go58,0,none⟩) x144001_43.length co58) y169):=⟨by (with_reducible repeat (first|apply rA|apply rN|apply rD));exact HQ67.out⟩
        have n2_:Aside0 (Kd.R (Kd.int .i64) 3 (w65.setCell ⟨go58,0,none⟩ (.int .i64 (rd y163 t166))) w.heap.size (fun k_=>some k_≠(.slice (some ⟨go58,0,none⟩) x144001_43.length co58:Value).ownBlock) (.slice (some adz_v164) y163.length co66) y163):=⟨by (with_reducible repeat (first|apply rA|apply rN|apply rD));exact rM (rF (p:=⟨go58,0,none⟩) (rM Bq.out (fun k_ hk=>(⟨hk,fun e_=>hk (by rw [e_];rfl)⟩:_∧k_≠go58))) (fun _ hk=>hk.2) (.int .i64 (rd y163 t166))) (fun _ hk=>hk.1)⟩
        have n3_:Aside0 ((w65.setCell ⟨go58,0,none⟩ (.int .i64 (rd y163 t166))).heap[Bh]?=some (.cells #[.slice none 0 0,.slice none 0 0] 26 (0,0))):=⟨by (with_reducible repeat (first|refine bN ?_ _|refine bD ?_|refine bA ?_ _));refine bE ?_ (by have h_:=rE Ba.out Bd.out (by decide);intro e_;exact h_ (by rw [e_];rfl)) _;(with_reducible repeat (first|refine bN ?_ _|refine bD ?_|refine bA ?_ _));exact Bd.out⟩
        have n4_:Aside0 ((w65.setCell ⟨go58,0,none⟩ (.int .i64 (rd y163 t166))).heap[Bg]?=some (.cells #[u144000,.slice (some ⟨go58,0,none⟩) x144001_43.length co58] 26 (0,0))):=⟨by (with_reducible repeat (first|refine bN ?_ _|refine bD ?_|refine bA ?_ _));refine bE ?_ (by have h_:=rE Ba.out Bc.out (by decide);intro e_;exact h_ (by rw [e_];rfl)) _;(with_reducible repeat (first|refine bN ?_ _|refine bD ?_|refine bA ?_ _));exact Bc.out⟩
        have n5_:Aside0 (IsS83 w0 (w65.setCell ⟨go58,0,none⟩ (.int .i64 (rd y163 t166))) g s0_0 t167):=⟨by repeat (first|(with_reducible first|exact HI0.out|apply IsS83.alloc|apply IsS83.drewN|apply IsS83.drew|apply IsS83.set_1|refine IsS83.far ?_ HN0_go58.out _|refine IsS83.far ?_ Be.out _|refine IsS83.far ?_ Bf.out _)|exact HI0.out)⟩
        have n6_:Aside0 (KeepBut w (w65.setCell ⟨go58,0,none⟩ (.int .i64 (rd y163 t166))) g none):=⟨by repeat (first|(with_reducible first|exact HK.out|apply KeepBut.set_|apply keep_drewN|apply keep_drew|apply keep_alloc|refine keep_far ?_ GB58.out _|refine keep_far ?_ Bi.out _|refine keep_far ?_ Bj.out _)|exact HK.out)⟩
        have n7_:Aside0 (Below w0.heap.size w0 (w65.setCell ⟨go58,0,none⟩ (.int .i64 (rd y163 t166)))):=⟨by repeat (first|(with_reducible first|exact HB.out|apply oA|apply pN|apply o1|refine bS ?_ (Nat.le_trans HL.out GB58.out)|refine bS ?_ (IsS83.ge HI0.out)|refine bS ?_ Bk.out|refine bS ?_ Bl.out)|exact HB.out)⟩
        (try clear Bb)
        (try clear Ba)
        (try clear Bq)
        (try clear Bd)
        (try clear Bc)
        (try clear HI0)
        (try clear HK)
        (try clear HB)
        generalize (w65.setCell ⟨go58,0,none⟩ (.int .i64 (rd y163 t166)))=w68 at n0_ n1_ n2_ n3_ n4_ n5_ n6_ n7_ ⊢
        have Bb:=n0_
        have Ba:=n1_
        have Bq:=n2_
        have Bd:=n3_
        have Bc:=n4_
        have HI0:=n5_
        have HK:=n6_
        have HB:=n7_
        clear n0_ n1_ n2_ n3_ n4_ n5_ n6_ n7_
        have Fb:=Bp.out
        have Fc:=Bm.out
        have Fd:=Bn.out
        have Fe:=Bf.out
        have Dj:=cz0 Bc.out
        have Dk:=cz1 Bc.out
        have Dl:=bF Bc.out 0
        have Dm:=bF Bc.out 1
        obtain ⟨Ao72,co72,eo72⟩:=rC Bb.out
        subst eo72
        have Ff:=Bo.out
        have Fg:=Be.out
        have Dn:=cz0 Bd.out
        have Do:=cz1 Bd.out
        have Dp:=bF Bd.out 0
        have Dq:=bF Bd.out 1
        try go_wp2
        refine bodyPost_ret (results_cell_row rfl _ _ Bh 26 #[.slice Ao72 x144000_1.length co72,.slice (some ⟨go58,0,none⟩) x144001_43.length co58] (0,0) _ rfl (by (with_reducible repeat (first|refine bN ?_ _|refine bD ?_|refine bA ?_ _));refine bT (cs:=#[.slice Ao72 x144000_1.length co72,.slice none 0 0]) ?_ 1 _ rfl;(with_reducible repeat (first|refine bN ?_ _|refine bD ?_|refine bA ?_ _));refine bT (cs:=#[.slice none 0 0,.slice none 0 0]) ?_ 0 _ rfl;(with_reducible repeat (first|refine bN ?_ _|refine bD ?_|refine bA ?_ _));exact Bd.out) Try.underlying26 rfl (by kernel_rfl)) rfl ?_
        exact ⟨_,_,by first|rfl|(simp [errW_none,errW_some] <;> rfl)|(simp [*,errW_none,errW_some] <;> rfl),by (with_reducible repeat (first|apply rA|apply rN|apply rD));exact rM (rF (p:=⟨Bh,1,none⟩) (rF (p:=⟨Bh,0,none⟩) (rT Bb.out Bd.out (by decide)) (fun _ hk=>hk.2) (.slice Ao72 x144000_1.length co72)) (fun _ hk=>hk.2) (.slice (some ⟨go58,0,none⟩) x144001_43.length co58)) (fun _ hk=>trivial),by (with_reducible repeat (first|apply rA|apply rN|apply rD));exact rM (rF (p:=⟨Bh,1,none⟩) (rF (p:=⟨Bh,0,none⟩) (rT Ba.out Bd.out (by decide)) (fun _ hk=>hk.2) (.slice Ao72 x144000_1.length co72)) (fun _ hk=>hk.2) (.slice (some ⟨go58,0,none⟩) x144001_43.length co58)) (fun _ hk=>trivial),by repeat (first|(with_reducible first|exact HI0.out|apply IsS83.alloc|apply IsS83.drewN|apply IsS83.drew|apply IsS83.set_1|refine IsS83.far ?_ Be.out _|refine IsS83.far ?_ Bf.out _)|exact HI0.out),by repeat (first|(with_reducible first|exact HB.out|apply oA|apply pN|apply o1|refine bS ?_ (IsS83.ge HI0.out)|refine bS ?_ Bk.out|refine bS ?_ Bl.out)|exact HB.out),by repeat (first|(with_reducible first|exact HK.out|apply KeepBut.set_|apply keep_drewN|apply keep_drew|apply keep_alloc|refine keep_far ?_ Bi.out _|refine keep_far ?_ Bj.out _)|exact HK.out)⟩
       rw [if_neg c53] at H
       have c53b0:(t161 == 0)=false:=beq_eq_false_iff_ne.mpr c53
       have c53b1:(t161 != 0)=true:=bne_iff_ne.mpr c53
       by_cases c75:t161=1
       ·rw [if_pos c75] at H
        have c75b0:(t161 == 1)=true:=beq_iff_eq.mpr c75
        have c75b1:(t161 != 1)=false:=bne_eq_false_iff_eq.mpr c75
        clear c75
        obtain ⟨ji76,hji76⟩:∃ j_:Int,(wrap64 ((x144000_1.length:Int) - 1))=j_:=⟨_,rfl⟩
        replace H:(if 0≤(ji76) then (if (ji76)<(x144000_1.length:Int) then (some ((x144000_1.set ((ji76):Int).toNat (⟨#[116,111,111,108,111,110,103]⟩:ByteArray)),x144001_43,t162)) else (none)) else (none))=some (r1,r2,r3):=by first|(rw [hji76] at H;exact H)|(simp only [hji76] at H ⊢;exact H)
        (try rw [hji76] at A52)
        have hji76w:(IntKind.i64.wrap ((x144000_1.length:Int) - 1))=ji76:=(i64_w _).trans hji76
        by_cases c77:0≤(ji76)
        rotate_left
        ·rw [if_neg c77] at H
         exact absurd H (by simp)
        rw [if_pos c77] at H
        have c77b0:decide (0≤(ji76))=true:=dT c77
        clear c77
        by_cases c78:(ji76)<(x144000_1.length:Int)
        rotate_left
        ·rw [if_neg c78] at H
         exact absurd H (by simp)
        rw [if_pos c78] at H
        have c78b0:decide ((ji76)<(x144000_1.length:Int))=true:=dT c78
        clear c78
        obtain ⟨y170,hy170⟩:∃ y_:List ByteArray,y_=(x144000_1.set ((ji76):Int).toNat (⟨#[116,111,111,108,111,110,103]⟩:ByteArray)):=⟨_,rfl⟩
        replace H:(some (y170,x144001_43,t162))=some (r1,r2,r3):=by first|(rw [hy170];with_reducible exact H)|(have H2_:=(Option.bind_some _ _).symm.trans H;rw [hy170];with_reducible exact H2_)|(have H2_:=(Option.bind_some _ _).symm.trans H;with_reducible exact H2_)|with_reducible exact H|(rw [hy170];exact H)|exact H
        have Ny170:=Am hy170
        clear hy170
        simp only [Option.some.injEq,Prod.mk.injEq] at H
        obtain ⟨rfl,rfl,rfl⟩:=H
        go_wp2_with (first|((with_reducible refine gC (f:=47) rfl ?_);refine goesL_ (some 40) rfl rfl Try.func47 (by kernel_rfl) rfl #[.pointer (some ⟨g,0,none⟩),.int .i64 16] rfl (by (try simp only [lM,lC,lN]);first|done|rfl|(simp only [lD,lT];rfl)) ?_;(with_reducible refine (spec_l6Rd_pick.calls kj43 g s0_0 x1001_43 16 t161 t162 w0 _ ?side1 ?side2 A52.out).mono ?_);(case side1=>repeat (first|(with_reducible first|exact HI0.out|apply IsS83.alloc|apply IsS83.drewN|apply IsS83.drew|apply IsS83.set_1|refine IsS83.far ?_ Be.out _|refine IsS83.far ?_ Bf.out _)|exact HI0.out));(case side2=>repeat (first|(with_reducible first|exact HB.out|apply oA|apply pN|apply o1|refine bS ?_ (IsS83.ge HI0.out)|refine bS ?_ Bk.out|refine bS ?_ Bl.out)|exact HB.out));rintro e w80 ⟨rfl,hi,hb,hk⟩;refine ⟨_,rfl,?_⟩;have n0_:=Am (rM (Kd.R_keep (IsS83.apart (show IsS83 w0 _ g s0_0 x1001_43 from by repeat (first|(with_reducible first|exact HI0.out|apply IsS83.alloc|apply IsS83.drewN|apply IsS83.drew|apply IsS83.set_1|refine IsS83.far ?_ Be.out _|refine IsS83.far ?_ Bf.out _)|exact HI0.out)) (rL Bb.out) (by decide)) hk (fun _ h=>h.2)) (fun _ h=>h.1));have n1_:=Am (rM (Kd.R_keep (IsS83.apart (show IsS83 w0 _ g s0_0 x1001_43 from by repeat (first|(with_reducible first|exact HI0.out|apply IsS83.alloc|apply IsS83.drewN|apply IsS83.drew|apply IsS83.set_1|refine IsS83.far ?_ Be.out _|refine IsS83.far ?_ Bf.out _)|exact HI0.out)) (rL Ba.out) (by decide)) hk (fun _ h=>h.2)) (fun _ h=>h.1));have n2_:=Am (KeepBut.blk hk (g':=Bh) (o:=.cells #[.slice none 0 0,.slice none 0 0] 26 (0,0)) (bL Bd.out) Bo.out (by simp));have n3_:=Am (KeepBut.blk hk (g':=Bg) (o:=.cells #[u144000,u144001] 26 (0,0)) (bL Bc.out) Bn.out (by simp));have n4_:=Am (KeepBut.trans (by repeat (first|(with_reducible first|exact HK.out|apply KeepBut.set_|apply keep_drewN|apply keep_drew|apply keep_alloc|refine keep_far ?_ Bi.out _|refine keep_far ?_ Bj.out _)|exact HK.out)) hk (.inl rfl));have n5_:=Am (hb);have n6_:=Am (hi);clear Bb Ba Bd Bc HK HB HI0;revert n0_ n1_ n2_ n3_ n4_ n5_ n6_;intro Bb Ba Bd Bc HK HB HI0;(try clear hb);(try clear hb2);(try clear hk);(try clear hi);have Fh:=Bp.out;have Fi:=Bm.out;have Fj:=Bn.out;have Fk:=Bf.out;have Dr:=cz0 Bc.out;have Ds:=cz1 Bc.out;have Dt:=bF Bc.out 0;have Du:=bF Bc.out 1;obtain ⟨Ao84,co84,eo84⟩:=rC Bb.out;subst eo84;have p79:0≤((ji76):Int):=oE (by first|(with_reducible assumption)|assumption);have q79:((ji76):Int)<((x144000_1.length:Int):Int):=oE (by first|(with_reducible assumption)|assumption);obtain ⟨go79,co79,eo79,BP,gl79,cl79,HG79⟩:=Kd.R_form Bb.out (by omega);(first|cases eo79|(injection eo79 with ea_ en_ ec_;(first|subst ea_|(injection ea_ with ea_;subst ea_));subst ec_;clear en_));have GB79:=Am BP;have GG79:=Am HG79;clear BP gl79 HG79;obtain ⟨hx79_0,hf79_0⟩:=Kd.R_celln (⟨#[]⟩:ByteArray) Bb.out ((ji76):Int) p79 q79;replace p79:=eq_true p79;replace q79:=eq_true q79;obtain ⟨hy85_,hz85_⟩:=Kd.R_celln (⟨#[]⟩:ByteArray) Bb.out ((ji76):Int) (oE (by first|(with_reducible assumption)|assumption)) (oE (by first|(with_reducible assumption)|assumption));have HP85:=Kd.R_putg Bb.out ((ji76):Int) (⟨#[116,111,111,108,111,110,103]⟩:ByteArray))|((with_reducible refine gS (t:=9) (p:=59) rfl ?_);refine sE (t:=9) (p:=59) (v:=?vo_w86) (w1:=(w80.setCell ⟨go79,((ji76):Int).toNat,none⟩ (.string (⟨#[116,111,111,108,111,110,103]⟩:ByteArray)))) ?hg ?ho ?hn ?hr ?_;(case ho=>rfl);(case hg=>rfl);(case hn=>rfl);(case hr=>first|(go_simp;done)|(go_simp;rfl));intro w86 hw;have hg:w80.grownBy w86 (some go79):=(by rw [hw];exact HP85.2);have hp_:Kd.R Kd.string 9 w86 w.heap.size (fun _=>True) (.slice (some ⟨go79,0,none⟩) x144000_1.length co84) y170:=(by rw [hw,Ny170.out];exact HP85.1);clear HP85;have n0_:=Am (hp_);have n1_:=Am (rO (v:=(.slice (some ⟨go79,0,none⟩) x144000_1.length co84)) (rL Ba.out) (rY Bb.out) (by decide) hg);have n2_:=Am (bG (g:=Bh) (o:=.cells #[.slice none 0 0,.slice none 0 0] 26 (0,0)) (bL Bd.out) hg (rE Bb.out Bd.out (by decide)));have n3_:=Am (bG (g:=Bg) (o:=.cells #[.slice (some ⟨go79,0,none⟩) x144000_1.length co84,u144001] 26 (0,0)) (bL Bc.out) hg (rE Bb.out Bc.out (by decide)));have n4_:=Am (IsS83.grown (by repeat (first|(with_reducible first|exact HI0.out|apply IsS83.alloc|apply IsS83.drewN|apply IsS83.drew|apply IsS83.set_1|refine IsS83.far ?_ Be.out _|refine IsS83.far ?_ Bf.out _)|exact HI0.out)) hg (IsS83.own_ne HI0.out Bb.out (by decide)));have n5_:=Am ((by rw [hw];exact bS (HB.out) (Nat.le_trans HL.out GB79.out):Below w0.heap.size w0 w86));have n6_:=Am (KeepBut.trans (by repeat (first|(with_reducible first|exact HK.out|apply KeepBut.set_|apply keep_drewN|apply keep_drew|apply keep_alloc|refine keep_far ?_ Bi.out _|refine keep_far ?_ Bj.out _)|exact HK.out)) (KeepBut.of_grown hg g) (Kd.R_base2 Bb.out));clear Bb Ba Bd Bc HI0 HB HK;revert n0_ n1_ n2_ n3_ n4_ n5_ n6_;intro Bb Ba Bd Bc HI0 HB HK;clear hg hw hp_;have Dv:=cz0 Bc.out;have Dw:=cz1 Bc.out;have Dx:=bF Bc.out 0;have Dy:=bF Bc.out 1;have Fl:=Bo.out;have Fm:=Be.out;have Dz:=cz0 Bd.out;have DA:=cz1 Bd.out;have DB:=bF Bd.out 0;have DC:=bF Bd.out 1;obtain ⟨Ao90,co90,eo90⟩:=rC Ba.out;subst eo90))
        refine bodyPost_ret (results_cell_row rfl _ _ Bh 26 #[.slice (some ⟨go79,0,none⟩) x144000_1.length co84,.slice Ao90 x144001_43.length co90] (0,0) _ rfl (by (with_reducible repeat (first|refine bN ?_ _|refine bD ?_|refine bA ?_ _));refine bT (cs:=#[.slice (some ⟨go79,0,none⟩) x144000_1.length co84,.slice none 0 0]) ?_ 1 _ rfl;(with_reducible repeat (first|refine bN ?_ _|refine bD ?_|refine bA ?_ _));refine bT (cs:=#[.slice none 0 0,.slice none 0 0]) ?_ 0 _ rfl;(with_reducible repeat (first|refine bN ?_ _|refine bD ?_|refine bA ?_ _));exact Bd.out) Try.underlying26 rfl (by kernel_rfl)) rfl ?_
        exact ⟨_,_,by first|rfl|(simp [errW_none,errW_some] <;> rfl)|(simp only [← hji76];first|rfl|(simp [errW_none,errW_some] <;> rfl))|(simp [*,errW_none,errW_some] <;> rfl),by (with_reducible repeat (first|apply rA|apply rN|apply rD));exact rM (rF (p:=⟨Bh,1,none⟩) (rF (p:=⟨Bh,0,none⟩) (rT Bb.out Bd.out (by decide)) (fun _ hk=>hk.2) (.slice (some ⟨go79,0,none⟩) x144000_1.length co84)) (fun _ hk=>hk.2) (.slice Ao90 x144001_43.length co90)) (fun _ hk=>trivial),by (with_reducible repeat (first|apply rA|apply rN|apply rD));exact rM (rF (p:=⟨Bh,1,none⟩) (rF (p:=⟨Bh,0,none⟩) (rT Ba.out Bd.out (by decide)) (fun _ hk=>hk.2) (.slice (some ⟨go79,0,none⟩) x144000_1.length co84)) (fun _ hk=>hk.2) (.slice Ao90 x144001_43.length co90)) (fun _ hk=>trivial),by repeat (first|(with_reducible first|exact HI0.out|apply IsS83.alloc|apply IsS83.drewN|apply IsS83.drew|apply IsS83.set_1|refine IsS83.far ?_ Be.out _|refine IsS83.far ?_ Bf.out _)|exact HI0.out),by repeat (first|(with_reducible first|exact HB.out|apply oA|apply pN|apply o1|refine bS ?_ (IsS83.ge HI0.out)|refine bS ?_ Bk.out|refine bS ?_ Bl.out)|exact HB.out),by repeat (first|(with_reducible first|exact HK.out|apply KeepBut.set_|apply keep_drewN|apply keep_drew|apply keep_alloc|refine keep_far ?_ Bi.out _|refine keep_far ?_ Bj.out _)|exact HK.out)⟩
       rw [if_neg c75] at H
       have c75b0:(t161 == 1)=false:=beq_eq_false_iff_ne.mpr c75
       have c75b1:(t161 != 1)=true:=bne_iff_ne.mpr c75
       by_cases c91:t161=2
       ·rw [if_pos c91] at H
        have c91b0:(t161 == 2)=true:=beq_iff_eq.mpr c91
        have c91b1:(t161 != 2)=false:=bne_eq_false_iff_eq.mpr c91
        clear c91
        by_cases c92:x144001_43.length<17592186044416
        rotate_left
        ·rw [if_neg c92] at H
         exact absurd H (by simp)
        rw [if_pos c92] at H
        have LMc92:=Am c92
        clear c92
        obtain ⟨y171,hy171⟩:∃ y_:List Int,y_=(x144001_43 ++ [0]):=⟨_,rfl⟩
        replace H:(some (x144000_1,y171,t162))=some (r1,r2,r3):=by first|(rw [hy171];with_reducible exact H)|(have H2_:=(Option.bind_some _ _).symm.trans H;rw [hy171];with_reducible exact H2_)|(have H2_:=(Option.bind_some _ _).symm.trans H;with_reducible exact H2_)|with_reducible exact H|(rw [hy171];exact H)|exact H
        have Ny171:=Am hy171
        clear hy171
        simp only [Option.some.injEq,Prod.mk.injEq] at H
        obtain ⟨rfl,rfl,rfl⟩:=H
        go_wp2_with (first|((with_reducible refine gC (f:=47) rfl ?_);refine goesL_ (some 40) rfl rfl Try.func47 (by kernel_rfl) rfl #[.pointer (some ⟨g,0,none⟩),.int .i64 16] rfl (by (try simp only [lM,lC,lN]);first|done|rfl|(simp only [lD,lT];rfl)) ?_;(with_reducible refine (spec_l6Rd_pick.calls kj43 g s0_0 x1001_43 16 t161 t162 w0 _ ?side1 ?side2 A52.out).mono ?_);(case side1=>repeat (first|(with_reducible first|exact HI0.out|apply IsS83.alloc|apply IsS83.drewN|apply IsS83.drew|apply IsS83.set_1|refine IsS83.far ?_ Be.out _|refine IsS83.far ?_ Bf.out _)|exact HI0.out));(case side2=>repeat (first|(with_reducible first|exact HB.out|apply oA|apply pN|apply o1|refine bS ?_ (IsS83.ge HI0.out)|refine bS ?_ Bk.out|refine bS ?_ Bl.out)|exact HB.out));rintro e w93 ⟨rfl,hi,hb,hk⟩;refine ⟨_,rfl,?_⟩;have n0_:=Am (rM (Kd.R_keep (IsS83.apart (show IsS83 w0 _ g s0_0 x1001_43 from by repeat (first|(with_reducible first|exact HI0.out|apply IsS83.alloc|apply IsS83.drewN|apply IsS83.drew|apply IsS83.set_1|refine IsS83.far ?_ Be.out _|refine IsS83.far ?_ Bf.out _)|exact HI0.out)) (rL Bb.out) (by decide)) hk (fun _ h=>h.2)) (fun _ h=>h.1));have n1_:=Am (rM (Kd.R_keep (IsS83.apart (show IsS83 w0 _ g s0_0 x1001_43 from by repeat (first|(with_reducible first|exact HI0.out|apply IsS83.alloc|apply IsS83.drewN|apply IsS83.drew|apply IsS83.set_1|refine IsS83.far ?_ Be.out _|refine IsS83.far ?_ Bf.out _)|exact HI0.out)) (rL Ba.out) (by decide)) hk (fun _ h=>h.2)) (fun _ h=>h.1));have n2_:=Am (KeepBut.blk hk (g':=Bh) (o:=.cells #[.slice none 0 0,.slice none 0 0] 26 (0,0)) (bL Bd.out) Bo.out (by simp));have n3_:=Am (KeepBut.blk hk (g':=Bg) (o:=.cells #[u144000,u144001] 26 (0,0)) (bL Bc.out) Bn.out (by simp));have n4_:=Am (KeepBut.trans (by repeat (first|(with_reducible first|exact HK.out|apply KeepBut.set_|apply keep_drewN|apply keep_drew|apply keep_alloc|refine keep_far ?_ Bi.out _|refine keep_far ?_ Bj.out _)|exact HK.out)) hk (.inl rfl));have n5_:=Am (hb);have n6_:=Am (hi);clear Bb Ba Bd Bc HK HB HI0;revert n0_ n1_ n2_ n3_ n4_ n5_ n6_;intro Bb Ba Bd Bc HK HB HI0;(try clear hb);(try clear hb2);(try clear hk);(try clear hi);have Fn:=Bp.out;have Fo:=Bm.out;have Fp:=Bn.out;have Fq:=Bf.out;have DD:=cz0 Bc.out;have DE:=cz1 Bc.out;have DF:=bF Bc.out 0;have DG:=bF Bc.out 1)|((with_reducible refine gate_builtin (b:=.append) (xs:=#[.tmp 63,.tmp 64]) rfl ?_);at_builtin;refine Kd.R_append (Kd.int .i64) w.heap.size rfl (.tmp 63) (.tmp 64) 24 3 (.int .i64 0) 8 rfl Try.underlying24 info3 rfl (by decide) (by omega) u144001 x144001_43 0 [.int .i64 0] (fun _=>True) (fun _=>False) rfl rfl ?aP (fun _ hk=>hk.elim) ?aF ?aO (bJ _ _) ?aS ?aL ?_;(case aP=>exact rfl);(case aF=>exact (fun _ _=>trivial));(case aO=>exact (rL Ba.out));(case aS=>exact (keep_size (w:=w) (g:=g) (row:=none) (by repeat (first|(with_reducible first|exact HK.out|apply KeepBut.set_|apply keep_drewN|apply keep_drew|apply keep_alloc|refine keep_far ?_ Bi.out _|refine keep_far ?_ Bj.out _)|exact HK.out))));(case aL=>have:=LMc92.out;omega);intro v172 w97 ho hb hg hat;rw [← Ny171.out] at ho;have n0_:=Am (rO (rL Bb.out) (rY (rL Ba.out)) (by decide) hg);have n1_:=Am (bG (g:=Bh) (o:=.cells #[.slice none 0 0,.slice none 0 0] 26 (0,0)) (bL Bd.out) hg (rE Ba.out Bd.out (by decide)));have n2_:=Am (bG (g:=Bg) (o:=.cells #[u144000,u144001] 26 (0,0)) (bL Bc.out) hg (rE Ba.out Bc.out (by decide)));have n3_:=Am (IsS83.grown (by repeat (first|(with_reducible first|exact HI0.out|apply IsS83.alloc|apply IsS83.drewN|apply IsS83.drew|apply IsS83.set_1|refine IsS83.far ?_ Be.out _|refine IsS83.far ?_ Bf.out _)|exact HI0.out)) hg (IsS83.own_ne HI0.out Ba.out (by decide)));have n4_:=Am (below_weaken (by repeat (first|(with_reducible first|exact HB.out|apply oA|apply pN|apply o1|refine bS ?_ (IsS83.ge HI0.out)|refine bS ?_ Bk.out|refine bS ?_ Bl.out)|exact HB.out)) HL.out hb);have n5_:=Am (KeepBut.trans (by repeat (first|(with_reducible first|exact HK.out|apply KeepBut.set_|apply keep_drewN|apply keep_drew|apply keep_alloc|refine keep_far ?_ Bi.out _|refine keep_far ?_ Bj.out _)|exact HK.out)) (KeepBut.of_grown hg g) (Kd.R_base2 Ba.out));have n6_:=Am (ho);clear Bb Bd Bc HI0 HB HK Ba;revert n0_ n1_ n2_ n3_ n4_ n5_ n6_;intro Bb Bd Bc HI0 HB HK BK;clear ho hb hg hat;obtain ⟨Ao98,co98,eo98⟩:=rC BK.out;subst eo98;have DH:=cz0 Bc.out;have DI:=cz1 Bc.out;have DJ:=bF Bc.out 0;have DK:=bF Bc.out 1;obtain ⟨Ao100,co100,eo100⟩:=rC Bb.out;subst eo100;have DL:=Bo.out;have DM:=Be.out;have BQ:=cz0 Bd.out;have BR:=cz1 Bd.out;have BS:=bF Bd.out 0;have BT:=bF Bd.out 1))
        refine bodyPost_ret (results_cell_row rfl _ _ Bh 26 #[.slice Ao100 x144000_1.length co100,.slice Ao98 y171.length co98] (0,0) _ rfl (by (with_reducible repeat (first|refine bN ?_ _|refine bD ?_|refine bA ?_ _));refine bT (cs:=#[.slice Ao100 x144000_1.length co100,.slice none 0 0]) ?_ 1 _ rfl;(with_reducible repeat (first|refine bN ?_ _|refine bD ?_|refine bA ?_ _));refine bT (cs:=#[.slice none 0 0,.slice none 0 0]) ?_ 0 _ rfl;(with_reducible repeat (first|refine bN ?_ _|refine bD ?_|refine bA ?_ _|refine bE ?_ Bm.out _));exact Bd.out) Try.underlying26 rfl (by kernel_rfl)) rfl ?_
        exact ⟨_,_,by first|rfl|(simp [errW_none,errW_some] <;> rfl)|(simp [*,errW_none,errW_some] <;> rfl),by (with_reducible repeat (first|apply rA|apply rN|apply rD));exact rM (rF (p:=⟨Bh,1,none⟩) (rF (p:=⟨Bh,0,none⟩) (rF (p:=⟨Bg,1,none⟩) (rT (rT Bb.out Bc.out (by decide)) Bd.out (by decide)) (fun _ hk=>hk.1.2) (.slice Ao98 y171.length co98)) (fun _ hk=>hk.2) (.slice Ao100 x144000_1.length co100)) (fun _ hk=>hk.2) (.slice Ao98 y171.length co98)) (fun _ hk=>trivial),by (with_reducible repeat (first|apply rA|apply rN|apply rD));exact rM (rF (p:=⟨Bh,1,none⟩) (rF (p:=⟨Bh,0,none⟩) (rF (p:=⟨Bg,1,none⟩) (rT (rT BK.out Bc.out (by decide)) Bd.out (by decide)) (fun _ hk=>hk.1.2) (.slice Ao98 y171.length co98)) (fun _ hk=>hk.2) (.slice Ao100 x144000_1.length co100)) (fun _ hk=>hk.2) (.slice Ao98 y171.length co98)) (fun _ hk=>trivial),by repeat (first|(with_reducible first|exact HI0.out|apply IsS83.alloc|apply IsS83.drewN|apply IsS83.drew|apply IsS83.set_1|refine IsS83.far ?_ Be.out _|refine IsS83.far ?_ Bf.out _)|exact HI0.out),by repeat (first|(with_reducible first|exact HB.out|apply oA|apply pN|apply o1|refine bS ?_ (IsS83.ge HI0.out)|refine bS ?_ Bk.out|refine bS ?_ Bl.out)|exact HB.out),by repeat (first|(with_reducible first|exact HK.out|apply KeepBut.set_|apply keep_drewN|apply keep_drew|apply keep_alloc|refine keep_far ?_ Bi.out _|refine keep_far ?_ Bj.out _)|exact HK.out)⟩
       rw [if_neg c91] at H
       have c91b0:(t161 == 2)=false:=beq_eq_false_iff_ne.mpr c91
       have c91b1:(t161 != 2)=true:=bne_iff_ne.mpr c91
       by_cases c103:t161=3
       rotate_left
       ·rw [if_neg c103] at H
        have c103b0:(t161 == 3)=false:=beq_eq_false_iff_ne.mpr c103
        have c103b1:(t161 != 3)=true:=bne_iff_ne.mpr c103
        simp only [Option.some.injEq,Prod.mk.injEq] at H
        obtain ⟨rfl,rfl,rfl⟩:=H
        go_wp2_with (first|((with_reducible refine gC (f:=47) rfl ?_);refine goesL_ (some 40) rfl rfl Try.func47 (by kernel_rfl) rfl #[.pointer (some ⟨g,0,none⟩),.int .i64 16] rfl (by (try simp only [lM,lC,lN]);first|done|rfl|(simp only [lD,lT];rfl)) ?_;(with_reducible refine (spec_l6Rd_pick.calls kj43 g s0_0 x1001_43 16 t161 t162 w0 _ ?side1 ?side2 A52.out).mono ?_);(case side1=>repeat (first|(with_reducible first|exact HI0.out|apply IsS83.alloc|apply IsS83.drewN|apply IsS83.drew|apply IsS83.set_1|refine IsS83.far ?_ Be.out _|refine IsS83.far ?_ Bf.out _)|exact HI0.out));(case side2=>repeat (first|(with_reducible first|exact HB.out|apply oA|apply pN|apply o1|refine bS ?_ (IsS83.ge HI0.out)|refine bS ?_ Bk.out|refine bS ?_ Bl.out)|exact HB.out));rintro e w124 ⟨rfl,hi,hb,hk⟩;refine ⟨_,rfl,?_⟩;have n0_:=Am (rM (Kd.R_keep (IsS83.apart (show IsS83 w0 _ g s0_0 x1001_43 from by repeat (first|(with_reducible first|exact HI0.out|apply IsS83.alloc|apply IsS83.drewN|apply IsS83.drew|apply IsS83.set_1|refine IsS83.far ?_ Be.out _|refine IsS83.far ?_ Bf.out _)|exact HI0.out)) (rL Bb.out) (by decide)) hk (fun _ h=>h.2)) (fun _ h=>h.1));have n1_:=Am (rM (Kd.R_keep (IsS83.apart (show IsS83 w0 _ g s0_0 x1001_43 from by repeat (first|(with_reducible first|exact HI0.out|apply IsS83.alloc|apply IsS83.drewN|apply IsS83.drew|apply IsS83.set_1|refine IsS83.far ?_ Be.out _|refine IsS83.far ?_ Bf.out _)|exact HI0.out)) (rL Ba.out) (by decide)) hk (fun _ h=>h.2)) (fun _ h=>h.1));have n2_:=Am (KeepBut.blk hk (g':=Bh) (o:=.cells #[.slice none 0 0,.slice none 0 0] 26 (0,0)) (bL Bd.out) Bo.out (by simp));have n3_:=Am (KeepBut.blk hk (g':=Bg) (o:=.cells #[u144000,u144001] 26 (0,0)) (bL Bc.out) Bn.out (by simp));have n4_:=Am (KeepBut.trans (by repeat (first|(with_reducible first|exact HK.out|apply KeepBut.set_|apply keep_drewN|apply keep_drew|apply keep_alloc|refine keep_far ?_ Bi.out _|refine keep_far ?_ Bj.out _)|exact HK.out)) hk (.inl rfl));have n5_:=Am (hb);have n6_:=Am (hi);clear Bb Ba Bd Bc HK HB HI0;revert n0_ n1_ n2_ n3_ n4_ n5_ n6_;intro Bb Ba Bd Bc HK HB HI0;(try clear hb);(try clear hb2);(try clear hk);(try clear hi);have DT:=Bp.out;have DU:=Bm.out;have DV:=Bn.out;have DW:=Bf.out;have Db:=cz0 Bc.out;have Dc:=cz1 Bc.out;have Dd:=bF Bc.out 0;have De:=bF Bc.out 1;obtain ⟨Ao128,co128,eo128⟩:=rC Bb.out;subst eo128;have DX:=Bo.out;have DY:=Be.out;have Df:=cz0 Bd.out;have Dg:=cz1 Bd.out;have Dh:=bF Bd.out 0;have Di:=bF Bd.out 1;obtain ⟨Ao131,co131,eo131⟩:=rC Ba.out;subst eo131))
        refine bodyPost_ret (results_cell_row rfl _ _ Bh 26 #[.slice Ao128 x144000_1.length co128,.slice Ao131 x144001_43.length co131] (0,0) _ rfl (by (with_reducible repeat (first|refine bN ?_ _|refine bD ?_|refine bA ?_ _));refine bT (cs:=#[.slice Ao128 x144000_1.length co128,.slice none 0 0]) ?_ 1 _ rfl;(with_reducible repeat (first|refine bN ?_ _|refine bD ?_|refine bA ?_ _));refine bT (cs:=#[.slice none 0 0,.slice none 0 0]) ?_ 0 _ rfl;(with_reducible repeat (first|refine bN ?_ _|refine bD ?_|refine bA ?_ _));exact Bd.out) Try.underlying26 rfl (by kernel_rfl)) rfl ?_
        exact ⟨_,_,by first|rfl|(simp [errW_none,errW_some] <;> rfl)|(simp [*,errW_none,errW_some] <;> rfl),by (with_reducible repeat (first|apply rA|apply rN|apply rD));exact rM (rF (p:=⟨Bh,1,none⟩) (rF (p:=⟨Bh,0,none⟩) (rT Bb.out Bd.out (by decide)) (fun _ hk=>hk.2) (.slice Ao128 x144000_1.length co128)) (fun _ hk=>hk.2) (.slice Ao131 x144001_43.length co131)) (fun _ hk=>trivial),by (with_reducible repeat (first|apply rA|apply rN|apply rD));exact rM (rF (p:=⟨Bh,1,none⟩) (rF (p:=⟨Bh,0,none⟩) (rT Ba.out Bd.out (by decide)) (fun _ hk=>hk.2) (.slice Ao128 x144000_1.length co128)) (fun _ hk=>hk.2) (.slice Ao131 x144001_43.length co131)) (fun _ hk=>trivial),by repeat (first|(with_reducible first|exact HI0.out|apply IsS83.alloc|apply IsS83.drewN|apply IsS83.drew|apply IsS83.set_1|refine IsS83.far ?_ Be.out _|refine IsS83.far ?_ Bf.out _)|exact HI0.out),by repeat (first|(with_reducible first|exact HB.out|apply oA|apply pN|apply o1|refine bS ?_ (IsS83.ge HI0.out)|refine bS ?_ Bk.out|refine bS ?_ Bl.out)|exact HB.out),by repeat (first|(with_reducible first|exact HK.out|apply KeepBut.set_|apply keep_drewN|apply keep_drew|apply keep_alloc|refine keep_far ?_ Bi.out _|refine keep_far ?_ Bj.out _)|exact HK.out)⟩

       rw [if_pos c103] at H
       have c103b0:(t161 == 3)=true:=beq_iff_eq.mpr c103
       have c103b1:(t161 != 3)=false:=bne_eq_false_iff_eq.mpr c103
       clear c103
       obtain ⟨y174,hy174⟩:∃ y_:List ByteArray,y_=(([(⟨#[]⟩:ByteArray),(⟨#[]⟩:ByteArray),(⟨#[]⟩:ByteArray),(⟨#[]⟩:ByteArray),(⟨#[]⟩:ByteArray),(⟨#[]⟩:ByteArray),(⟨#[]⟩:ByteArray),(⟨#[]⟩:ByteArray),(⟨#[]⟩:ByteArray),(⟨#[]⟩:ByteArray),(⟨#[]⟩:ByteArray),(⟨#[]⟩:ByteArray)]:List ByteArray)):=⟨_,rfl⟩
       replace H:(if x144000_1.length + y174.length<8796093022208 then ((some (([0,0,0,0,0,0,0,0,0,0,0,0]:List Int):List Int)).bind fun y180=>(if x144001_43.length + y180.length<17592186044416 then (some ((x144000_1 ++ y174),(x144001_43 ++ y180),t162)) else (none))) else (none))=some (r1,r2,r3):=by first|(rw [hy174];with_reducible exact H)|(have H2_:=(Option.bind_some _ _).symm.trans H;rw [hy174];with_reducible exact H2_)|(have H2_:=(Option.bind_some _ _).symm.trans H;with_reducible exact H2_)|with_reducible exact H|(rw [hy174];exact H)|exact H
       have Ny174:=Am hy174
       clear hy174
       by_cases c104:x144000_1.length + y174.length<8796093022208
       rotate_left
       ·rw [if_neg c104] at H
        exact absurd H (by simp)
       rw [if_pos c104] at H
       have LMc104:=Am c104
       clear c104
       obtain ⟨y177,hy177⟩:∃ y_:List ByteArray,y_=(x144000_1 ++ y174):=⟨_,rfl⟩
       replace H:((some (([0,0,0,0,0,0,0,0,0,0,0,0]:List Int):List Int)).bind fun y180=>(if x144001_43.length + y180.length<17592186044416 then (some (y177,(x144001_43 ++ y180),t162)) else (none)))=some (r1,r2,r3):=by first|(rw [hy177];with_reducible exact H)|(have H2_:=(Option.bind_some _ _).symm.trans H;rw [hy177];with_reducible exact H2_)|(have H2_:=(Option.bind_some _ _).symm.trans H;with_reducible exact H2_)|with_reducible exact H|(rw [hy177];exact H)|exact H
       have Ny177:=Am hy177
       clear hy177
       obtain ⟨y180,hy180⟩:∃ y_:List Int,y_=(([0,0,0,0,0,0,0,0,0,0,0,0]:List Int)):=⟨_,rfl⟩
       replace H:(if x144001_43.length + y180.length<17592186044416 then (some (y177,(x144001_43 ++ y180),t162)) else (none))=some (r1,r2,r3):=by first|(rw [hy180];with_reducible exact H)|(have H2_:=(Option.bind_some _ _).symm.trans H;rw [hy180];with_reducible exact H2_)|(have H2_:=(Option.bind_some _ _).symm.trans H;with_reducible exact H2_)|with_reducible exact H|(rw [hy180];exact H)|exact H
       have Ny180:=Am hy180
       clear hy180
       by_cases c105:x144001_43.length + y180.length<17592186044416
       rotate_left
       ·rw [if_neg c105] at H
        exact absurd H (by simp)
       rw [if_pos c105] at H
       have LMc105:=Am c105
       clear c105
       obtain ⟨y183,hy183⟩:∃ y_:List Int,y_=(x144001_43 ++ y180):=⟨_,rfl⟩
       replace H:(some (y177,y183,t162))=some (r1,r2,r3):=by first|(rw [hy183];with_reducible exact H)|(have H2_:=(Option.bind_some _ _).symm.trans H;rw [hy183];with_reducible exact H2_)|(have H2_:=(Option.bind_some _ _).symm.trans H;with_reducible exact H2_)|with_reducible exact H|(rw [hy183];exact H)|exact H
       have Ny183:=Am hy183
       clear hy183
       simp only [Option.some.injEq,Prod.mk.injEq] at H
       obtain ⟨rfl,rfl,rfl⟩:=H
       go_wp2_with (first|((with_reducible refine gC (f:=47) rfl ?_);refine goesL_ (some 40) rfl rfl Try.func47 (by kernel_rfl) rfl #[.pointer (some ⟨g,0,none⟩),.int .i64 16] rfl (by (try simp only [lM,lC,lN]);first|done|rfl|(simp only [lD,lT];rfl)) ?_;(with_reducible refine (spec_l6Rd_pick.calls kj43 g s0_0 x1001_43 16 t161 t162 w0 _ ?side1 ?side2 A52.out).mono ?_);(case side1=>repeat (first|(with_reducible first|exact HI0.out|apply IsS83.alloc|apply IsS83.drewN|apply IsS83.drew|apply IsS83.set_1|refine IsS83.far ?_ Be.out _|refine IsS83.far ?_ Bf.out _)|exact HI0.out));(case side2=>repeat (first|(with_reducible first|exact HB.out|apply oA|apply pN|apply o1|refine bS ?_ (IsS83.ge HI0.out)|refine bS ?_ Bk.out|refine bS ?_ Bl.out)|exact HB.out));rintro e w106 ⟨rfl,hi,hb,hk⟩;refine ⟨_,rfl,?_⟩;have n0_:=Am (rM (Kd.R_keep (IsS83.apart (show IsS83 w0 _ g s0_0 x1001_43 from by repeat (first|(with_reducible first|exact HI0.out|apply IsS83.alloc|apply IsS83.drewN|apply IsS83.drew|apply IsS83.set_1|refine IsS83.far ?_ Be.out _|refine IsS83.far ?_ Bf.out _)|exact HI0.out)) (rL Bb.out) (by decide)) hk (fun _ h=>h.2)) (fun _ h=>h.1));have n1_:=Am (rM (Kd.R_keep (IsS83.apart (show IsS83 w0 _ g s0_0 x1001_43 from by repeat (first|(with_reducible first|exact HI0.out|apply IsS83.alloc|apply IsS83.drewN|apply IsS83.drew|apply IsS83.set_1|refine IsS83.far ?_ Be.out _|refine IsS83.far ?_ Bf.out _)|exact HI0.out)) (rL Ba.out) (by decide)) hk (fun _ h=>h.2)) (fun _ h=>h.1));have n2_:=Am (KeepBut.blk hk (g':=Bh) (o:=.cells #[.slice none 0 0,.slice none 0 0] 26 (0,0)) (bL Bd.out) Bo.out (by simp));have n3_:=Am (KeepBut.blk hk (g':=Bg) (o:=.cells #[u144000,u144001] 26 (0,0)) (bL Bc.out) Bn.out (by simp));have n4_:=Am (KeepBut.trans (by repeat (first|(with_reducible first|exact HK.out|apply KeepBut.set_|apply keep_drewN|apply keep_drew|apply keep_alloc|refine keep_far ?_ Bi.out _|refine keep_far ?_ Bj.out _)|exact HK.out)) hk (.inl rfl));have n5_:=Am (hb);have n6_:=Am (hi);clear Bb Ba Bd Bc HK HB HI0;revert n0_ n1_ n2_ n3_ n4_ n5_ n6_;intro Bb Ba Bd Bc HK HB HI0;(try clear hb);(try clear hb2);(try clear hk);(try clear hi);have DN:=Bp.out;have DO:=Bm.out;have DP:=Bn.out;have DQ:=Bf.out;have BU:=cz0 Bc.out;have BV:=cz1 Bc.out;have BW:=bF Bc.out 0;have BX:=bF Bc.out 1)|((with_reducible refine gD (N:=71) rfl ?_);refine Kd.R_lit Kd.string _ 9 ?hg (N:=71) ?hd (xs:=([(⟨#[]⟩:ByteArray),(⟨#[]⟩:ByteArray),(⟨#[]⟩:ByteArray),(⟨#[]⟩:ByteArray),(⟨#[]⟩:ByteArray),(⟨#[]⟩:ByteArray),(⟨#[]⟩:ByteArray),(⟨#[]⟩:ByteArray),(⟨#[]⟩:ByteArray),(⟨#[]⟩:ByteArray),(⟨#[]⟩:ByteArray),(⟨#[]⟩:ByteArray)]:List ByteArray)) (inner:=[.string (⟨#[]⟩:ByteArray),.string (⟨#[]⟩:ByteArray),.string (⟨#[]⟩:ByteArray),.string (⟨#[]⟩:ByteArray),.string (⟨#[]⟩:ByteArray),.string (⟨#[]⟩:ByteArray),.string (⟨#[]⟩:ByteArray),.string (⟨#[]⟩:ByteArray),.string (⟨#[]⟩:ByteArray),.string (⟨#[]⟩:ByteArray),.string (⟨#[]⟩:ByteArray),.string (⟨#[]⟩:ByteArray)]) (ok:=fun _=>True) (okp:=fun _=>True) ?hr ?hp (fun _ hk=>hk) trivial (bJ _ _) (nR _) (by simp) ?_;(case hd=>rfl);(case hg=>rfl);(case hr=>first|(go_simp;done)|(go_simp;rfl));(case hp=>exact (Reps.one (show Kd.M Kd.string _ _ _ (⟨#[]⟩:ByteArray) [.string (⟨#[]⟩:ByteArray)] from rfl) (Reps.one (show Kd.M Kd.string _ _ _ (⟨#[]⟩:ByteArray) [.string (⟨#[]⟩:ByteArray)] from rfl) (Reps.one (show Kd.M Kd.string _ _ _ (⟨#[]⟩:ByteArray) [.string (⟨#[]⟩:ByteArray)] from rfl) (Reps.one (show Kd.M Kd.string _ _ _ (⟨#[]⟩:ByteArray) [.string (⟨#[]⟩:ByteArray)] from rfl) (Reps.one (show Kd.M Kd.string _ _ _ (⟨#[]⟩:ByteArray) [.string (⟨#[]⟩:ByteArray)] from rfl) (Reps.one (show Kd.M Kd.string _ _ _ (⟨#[]⟩:ByteArray) [.string (⟨#[]⟩:ByteArray)] from rfl) (Reps.one (show Kd.M Kd.string _ _ _ (⟨#[]⟩:ByteArray) [.string (⟨#[]⟩:ByteArray)] from rfl) (Reps.one (show Kd.M Kd.string _ _ _ (⟨#[]⟩:ByteArray) [.string (⟨#[]⟩:ByteArray)] from rfl) (Reps.one (show Kd.M Kd.string _ _ _ (⟨#[]⟩:ByteArray) [.string (⟨#[]⟩:ByteArray)] from rfl) (Reps.one (show Kd.M Kd.string _ _ _ (⟨#[]⟩:ByteArray) [.string (⟨#[]⟩:ByteArray)] from rfl) (Reps.one (show Kd.M Kd.string _ _ _ (⟨#[]⟩:ByteArray) [.string (⟨#[]⟩:ByteArray)] from rfl) (Reps.one (show Kd.M Kd.string _ _ _ (⟨#[]⟩:ByteArray) [.string (⟨#[]⟩:ByteArray)] from rfl) (Reps.none _ _))))))))))))));intro v175 w110 ho111 hb hg_ hnew_;clear hg_ hnew_;(first|rw [← Ny174.out] at ho111|(simp only [Int.reduceToNat] at ho111;rw [← Ny174.out] at ho111));have n0_:=Am (rX (rL Bb.out) (rZ ho111) hb);have n1_:=Am (rB (rL Ba.out) hb);have n2_:=Am (rW (rQ ho111 (rI (rL Bb.out))) (keep_size (w:=w) (g:=g) (row:=none) (by repeat (first|(with_reducible first|exact HK.out|apply KeepBut.set_|apply keep_drewN|apply keep_drew|apply keep_alloc|refine keep_far ?_ Bi.out _|refine keep_far ?_ Bj.out _)|exact HK.out))));have n3_:=Am (bX Bd.out hb);have n4_:=Am (bX Bc.out hb);have n5_:=Am (IsS83.below (by repeat (first|(with_reducible first|exact HI0.out|apply IsS83.alloc|apply IsS83.drewN|apply IsS83.drew|apply IsS83.set_1|refine IsS83.far ?_ Be.out _|refine IsS83.far ?_ Bf.out _)|exact HI0.out)) hb);have n6_:=Am (KeepBut.trans (by repeat (first|(with_reducible first|exact HK.out|apply KeepBut.set_|apply keep_drewN|apply keep_drew|apply keep_alloc|refine keep_far ?_ Bi.out _|refine keep_far ?_ Bj.out _)|exact HK.out)) (KeepBut.of_below hb g none) (.inl rfl));have n7_:=Am (bP (by repeat (first|(with_reducible first|exact HB.out|apply oA|apply pN|apply o1|refine bS ?_ (IsS83.ge HI0.out)|refine bS ?_ Bk.out|refine bS ?_ Bl.out)|exact HB.out)) hb);clear Bb Ba Bd Bc HI0 HK HB;revert n0_ n1_ n2_ n3_ n4_ n5_ n6_ n7_;intro Bb Ba Br Bd Bc HI0 HK HB;clear hb ho111;obtain ⟨Ao113,co113,eo113⟩:=rC Br.out;subst eo113)|((with_reducible refine gate_builtin (b:=.append) (xs:=#[.tmp 70,.tmp 71]) rfl ?_);at_builtin;refine Kd.R_append_rows Kd.string w.heap.size rfl (.tmp 70) (.tmp 71) 23 9 (.string ⟨#[]⟩) 16 rfl Try.underlying23 info9 rfl (by decide) (by omega) u144000 x144000_1 y174 _ _ _ (fun k_=>some k_≠(.slice Ao113 y174.length co113:Value).ownBlock) (fun _=>False) rfl rfl ?aO ?aR (fun _ _ h=>h) (fun _ h=>h.elim) ?aF (bJ _ _) ?aS ?aL ?_;(case aR=>repeat (first|exact (rR Br.out).2.2|(with_reducible refine cA ?_ _)|(with_reducible refine cN ?_ _)|(with_reducible refine cD ?_)));(case aF=>exact (fun k_ hk=>Kd.fresh' (rI (rL Br.out)) k_ hk));(case aO=>exact (by (with_reducible repeat (first|apply rA|apply rN|apply rD));exact rM Bb.out (fun _ hk=>hk.2)));(case aS=>exact (keep_size (w:=w) (g:=g) (row:=none) (by repeat (first|(with_reducible first|exact HK.out|apply KeepBut.set_|apply keep_drewN|apply keep_drew|apply keep_alloc|refine keep_far ?_ Bi.out _|refine keep_far ?_ Bj.out _)|exact HK.out))));(case aL=>have:=LMc104.out;omega);intro v178 w112 ho hb hg hat;rw [← Ny177.out] at ho;have n0_:=Am (rO (rL Ba.out) (rY (rL Bb.out)) (by decide) hg);have n1_:=Am (bG (g:=Bh) (o:=.cells #[.slice none 0 0,.slice none 0 0] 26 (0,0)) (bL Bd.out) hg (rE Bb.out Bd.out (by decide)));have n2_:=Am (bG (g:=Bg) (o:=.cells #[u144000,u144001] 26 (0,0)) (bL Bc.out) hg (rE Bb.out Bc.out (by decide)));have n3_:=Am (IsS83.grown (by repeat (first|(with_reducible first|exact HI0.out|apply IsS83.alloc|apply IsS83.drewN|apply IsS83.drew|apply IsS83.set_1|refine IsS83.far ?_ Be.out _|refine IsS83.far ?_ Bf.out _)|exact HI0.out)) hg (IsS83.own_ne HI0.out Bb.out (by decide)));have n4_:=Am (Kd.R_after (ok:=(fun _=>True)) (rL Br.out) hg hat);have n5_:=Am (below_weaken (by repeat (first|(with_reducible first|exact HB.out|apply oA|apply pN|apply o1|refine bS ?_ (IsS83.ge HI0.out)|refine bS ?_ Bk.out|refine bS ?_ Bl.out)|exact HB.out)) HL.out hb);have n6_:=Am (KeepBut.trans (by repeat (first|(with_reducible first|exact HK.out|apply KeepBut.set_|apply keep_drewN|apply keep_drew|apply keep_alloc|refine keep_far ?_ Bi.out _|refine keep_far ?_ Bj.out _)|exact HK.out)) (KeepBut.of_grown hg g) (Kd.R_base2 Bb.out));have n7_:=Am (ho);clear Ba Bd Bc HI0 Br HB HK Bb;revert n0_ n1_ n2_ n3_ n4_ n5_ n6_ n7_;intro Ba Bd Bc HI0 Br HB HK Bu;clear ho hb hg hat;obtain ⟨Ao114,co114,eo114⟩:=rC Bu.out;subst eo114;have BY:=cz0 Bc.out;have BZ:=cz1 Bc.out;have B0:=bF Bc.out 0;have B1:=bF Bc.out 1)|((with_reducible refine gD (N:=76) rfl ?_);refine Kd.R_lit (Kd.int .i64) _ 3 ?hg (N:=76) ?hd (xs:=([0,0,0,0,0,0,0,0,0,0,0,0]:List Int)) (inner:=[.int .i64 0,.int .i64 0,.int .i64 0,.int .i64 0,.int .i64 0,.int .i64 0,.int .i64 0,.int .i64 0,.int .i64 0,.int .i64 0,.int .i64 0,.int .i64 0]) (ok:=fun _=>True) (okp:=fun _=>True) ?hr ?hp (fun _ hk=>hk) trivial (bJ _ _) (nR _) (by simp) ?_;(case hd=>rfl);(case hg=>rfl);(case hr=>first|(go_simp;done)|(go_simp;rfl));(case hp=>exact (Reps.one (show Kd.M (Kd.int .i64) _ _ _ 0 [.int .i64 0] from rfl) (Reps.one (show Kd.M (Kd.int .i64) _ _ _ 0 [.int .i64 0] from rfl) (Reps.one (show Kd.M (Kd.int .i64) _ _ _ 0 [.int .i64 0] from rfl) (Reps.one (show Kd.M (Kd.int .i64) _ _ _ 0 [.int .i64 0] from rfl) (Reps.one (show Kd.M (Kd.int .i64) _ _ _ 0 [.int .i64 0] from rfl) (Reps.one (show Kd.M (Kd.int .i64) _ _ _ 0 [.int .i64 0] from rfl) (Reps.one (show Kd.M (Kd.int .i64) _ _ _ 0 [.int .i64 0] from rfl) (Reps.one (show Kd.M (Kd.int .i64) _ _ _ 0 [.int .i64 0] from rfl) (Reps.one (show Kd.M (Kd.int .i64) _ _ _ 0 [.int .i64 0] from rfl) (Reps.one (show Kd.M (Kd.int .i64) _ _ _ 0 [.int .i64 0] from rfl) (Reps.one (show Kd.M (Kd.int .i64) _ _ _ 0 [.int .i64 0] from rfl) (Reps.one (show Kd.M (Kd.int .i64) _ _ _ 0 [.int .i64 0] from rfl) (Reps.none _ _))))))))))))));intro v181 w116 ho117 hb hg_ hnew_;clear hg_ hnew_;(first|rw [← Ny180.out] at ho117|(simp only [Int.reduceToNat] at ho117;rw [← Ny180.out] at ho117));have n0_:=Am (rX (by (with_reducible repeat (first|apply rA|apply rN|apply rD));exact (rM (rF (p:=⟨Bg,0,none⟩) (rT Ba.out Bc.out (by decide)) (fun _ hk=>hk.2) (.slice Ao114 y177.length co114)) (fun _ h_=>h_.1))) (rZ ho117) hb);have n1_:=Am (rB (by (with_reducible repeat (first|apply rA|apply rN|apply rD));exact (rM (rF (p:=⟨Bg,0,none⟩) (rT Br.out Bc.out (by decide)) (fun _ hk=>hk.2) (.slice Ao114 y177.length co114)) (fun _ h_=>h_.1))) hb);have n2_:=Am (rB (by (with_reducible repeat (first|apply rA|apply rN|apply rD));exact (rM (rF (p:=⟨Bg,0,none⟩) (rT Bu.out Bc.out (by decide)) (fun _ hk=>hk.2) (.slice Ao114 y177.length co114)) (fun _ h_=>h_.1))) hb);have n3_:=Am (rW (rQ ho117 (rI (by (with_reducible repeat (first|apply rA|apply rN|apply rD));exact (rM (rF (p:=⟨Bg,0,none⟩) (rT Ba.out Bc.out (by decide)) (fun _ hk=>hk.2) (.slice Ao114 y177.length co114)) (fun _ h_=>h_.1))))) (keep_size (w:=w) (g:=g) (row:=none) (by repeat (first|(with_reducible first|exact HK.out|apply KeepBut.set_|apply keep_drewN|apply keep_drew|apply keep_alloc|refine keep_far ?_ Bi.out _|refine keep_far ?_ Bj.out _)|exact HK.out))));have n4_:=Am (bB (g:=Bh) (o:=.cells #[.slice none 0 0,.slice none 0 0] 26 (0,0)) (by (with_reducible repeat (first|refine bN ?_ _|refine bD ?_|refine bA ?_ _|refine bE ?_ Bm.out _));exact Bd.out) hb);have n5_:=Am (bB (g:=Bg) (o:=.cells #[.slice Ao114 y177.length co114,u144001] 26 (0,0)) (by (with_reducible repeat (first|refine bN ?_ _|refine bD ?_|refine bA ?_ _));refine bT (cs:=#[u144000,u144001]) ?_ 0 _ rfl;(with_reducible repeat (first|refine bN ?_ _|refine bD ?_|refine bA ?_ _));exact Bc.out) hb);have n6_:=Am (IsS83.below (show IsS83 w0 (w112.setCell ⟨Bg,0,none⟩ (.slice Ao114 y177.length co114)) g s0_0 t162 from by repeat (first|(with_reducible first|exact HI0.out|apply IsS83.alloc|apply IsS83.drewN|apply IsS83.drew|apply IsS83.set_1|refine IsS83.far ?_ Be.out _|refine IsS83.far ?_ Bf.out _)|exact HI0.out)) hb);have n7_:=Am (KeepBut.trans (by repeat (first|(with_reducible first|exact HK.out|apply KeepBut.set_|apply keep_drewN|apply keep_drew|apply keep_alloc|refine keep_far ?_ Bi.out _|refine keep_far ?_ Bj.out _)|exact HK.out)) (KeepBut.of_below hb g none) (.inl rfl));have n8_:=Am (bP (by repeat (first|(with_reducible first|exact HB.out|apply oA|apply pN|apply o1|refine bS ?_ (IsS83.ge HI0.out)|refine bS ?_ Bk.out|refine bS ?_ Bl.out)|exact HB.out)) hb);clear Ba Br Bu Bd Bc HI0 HK HB;revert n0_ n1_ n2_ n3_ n4_ n5_ n6_ n7_ n8_;intro Ba Br Bu Bv Bd Bc HI0 HK HB;clear hb ho117;obtain ⟨Ao119,co119,eo119⟩:=rC Bv.out;subst eo119)|((with_reducible refine gate_builtin (b:=.append) (xs:=#[.tmp 75,.tmp 76]) rfl ?_);at_builtin;refine Kd.R_append_rows (Kd.int .i64) w.heap.size rfl (.tmp 75) (.tmp 76) 24 3 (.int .i64 0) 8 rfl Try.underlying24 info3 rfl (by decide) (by omega) u144001 x144001_43 y180 _ _ _ (fun k_=>some k_≠(.slice Ao119 y180.length co119:Value).ownBlock) (fun _=>False) rfl rfl ?aO ?aR (fun _ _ h=>h) (fun _ h=>h.elim) ?aF (bJ _ _) ?aS ?aL ?_;(case aR=>repeat (first|exact (rR Bv.out).2.2|(with_reducible refine cA ?_ _)|(with_reducible refine cN ?_ _)|(with_reducible refine cD ?_)));(case aF=>exact (fun k_ hk=>Kd.fresh' (rI (rL Bv.out)) k_ hk));(case aO=>exact (by (with_reducible repeat (first|apply rA|apply rN|apply rD));exact rM Ba.out (fun _ hk=>hk.2)));(case aS=>exact (keep_size (w:=w) (g:=g) (row:=none) (by repeat (first|(with_reducible first|exact HK.out|apply KeepBut.set_|apply keep_drewN|apply keep_drew|apply keep_alloc|refine keep_far ?_ Bi.out _|refine keep_far ?_ Bj.out _)|exact HK.out))));(case aL=>have:=LMc105.out;omega);intro v184 w118 ho hb hg hat;rw [← Ny183.out] at ho;have n0_:=Am (bG (g:=Bh) (o:=.cells #[.slice none 0 0,.slice none 0 0] 26 (0,0)) (bL Bd.out) hg (rE Ba.out Bd.out (by decide)));have n1_:=Am (bG (g:=Bg) (o:=.cells #[.slice Ao114 y177.length co114,u144001] 26 (0,0)) (bL Bc.out) hg (rE Ba.out Bc.out (by decide)));have n2_:=Am (IsS83.grown (by repeat (first|(with_reducible first|exact HI0.out|apply IsS83.alloc|apply IsS83.drewN|apply IsS83.drew|apply IsS83.set_1|refine IsS83.far ?_ Be.out _|refine IsS83.far ?_ Bf.out _)|exact HI0.out)) hg (IsS83.own_ne HI0.out Ba.out (by decide)));have n3_:=Am (rO (rL Br.out) (rY (rL Ba.out)) (by decide) hg);have n4_:=Am (rO (rL Bu.out) (rY (rL Ba.out)) (by decide) hg);have n5_:=Am (Kd.R_after (ok:=(fun _=>True)) (rL Bv.out) hg hat);have n6_:=Am (below_weaken (by repeat (first|(with_reducible first|exact HB.out|apply oA|apply pN|apply o1|refine bS ?_ (IsS83.ge HI0.out)|refine bS ?_ Bk.out|refine bS ?_ Bl.out)|exact HB.out)) HL.out hb);have n7_:=Am (KeepBut.trans (by repeat (first|(with_reducible first|exact HK.out|apply KeepBut.set_|apply keep_drewN|apply keep_drew|apply keep_alloc|refine keep_far ?_ Bi.out _|refine keep_far ?_ Bj.out _)|exact HK.out)) (KeepBut.of_grown hg g) (Kd.R_base2 Ba.out));have n8_:=Am (ho);clear Bd Bc HI0 Br Bu Bv HB HK Ba;revert n0_ n1_ n2_ n3_ n4_ n5_ n6_ n7_ n8_;intro Bd Bc HI0 Br Bu Bv HB HK BL;clear ho hb hg hat;obtain ⟨Ao120,co120,eo120⟩:=rC BL.out;subst eo120;have B2:=cz0 Bc.out;have B3:=cz1 Bc.out;have B4:=bF Bc.out 0;have B6:=bF Bc.out 1;have DR:=Bo.out;have DS:=Be.out;have B7:=cz0 Bd.out;have B8:=cz1 Bd.out;have B9:=bF Bd.out 0;have Da:=bF Bd.out 1))
       refine bodyPost_ret (results_cell_row rfl _ _ Bh 26 #[.slice Ao114 y177.length co114,.slice Ao120 y183.length co120] (0,0) _ rfl (by (with_reducible repeat (first|refine bN ?_ _|refine bD ?_|refine bA ?_ _));refine bT (cs:=#[.slice Ao114 y177.length co114,.slice none 0 0]) ?_ 1 _ rfl;(with_reducible repeat (first|refine bN ?_ _|refine bD ?_|refine bA ?_ _));refine bT (cs:=#[.slice none 0 0,.slice none 0 0]) ?_ 0 _ rfl;(with_reducible repeat (first|refine bN ?_ _|refine bD ?_|refine bA ?_ _|refine bE ?_ Bm.out _));exact Bd.out) Try.underlying26 rfl (by kernel_rfl)) rfl ?_
       exact ⟨_,_,by first|rfl|(simp [errW_none,errW_some] <;> rfl)|(simp [*,errW_none,errW_some] <;> rfl),by (with_reducible repeat (first|apply rA|apply rN|apply rD));exact rM (rF (p:=⟨Bh,1,none⟩) (rF (p:=⟨Bh,0,none⟩) (rF (p:=⟨Bg,1,none⟩) (rT (rT Bu.out Bc.out (by decide)) Bd.out (by decide)) (fun _ hk=>hk.1.2) (.slice Ao120 y183.length co120)) (fun _ hk=>hk.2) (.slice Ao114 y177.length co114)) (fun _ hk=>hk.2) (.slice Ao120 y183.length co120)) (fun _ hk=>trivial),by (with_reducible repeat (first|apply rA|apply rN|apply rD));exact rM (rF (p:=⟨Bh,1,none⟩) (rF (p:=⟨Bh,0,none⟩) (rF (p:=⟨Bg,1,none⟩) (rT (rT BL.out Bc.out (by decide)) Bd.out (by decide)) (fun _ hk=>hk.1.2) (.slice Ao120 y183.length co120)) (fun _ hk=>hk.2) (.slice Ao114 y177.length co114)) (fun _ hk=>hk.2) (.slice Ao120 y183.length co120)) (fun _ hk=>trivial),by repeat (first|(with_reducible first|exact HI0.out|apply IsS83.alloc|apply IsS83.drewN|apply IsS83.drew|apply IsS83.set_1|refine IsS83.far ?_ Be.out _|refine IsS83.far ?_ Bf.out _)|exact HI0.out),by repeat (first|(with_reducible first|exact HB.out|apply oA|apply pN|apply o1|refine bS ?_ (IsS83.ge HI0.out)|refine bS ?_ Bk.out|refine bS ?_ Bl.out)|exact HB.out),by repeat (first|(with_reducible first|exact HK.out|apply KeepBut.set_|apply keep_drewN|apply keep_drew|apply keep_alloc|refine keep_far ?_ Bi.out _|refine keep_far ?_ Bj.out _)|exact HK.out)⟩
end Go.Proofs.Ytpdfkbggaihfpaa.PFnPagesSet
