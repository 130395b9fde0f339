/- Proved here, without a condition beyond those that each theorem states: what the Go functions named below do is what the plain functions of the same names say. Written by xprint.py, a program of this session. -/
import Derived.Test.YtiifanjjohophaaPFnSigsRunx0
import Derived.Test.YtiifanjjohophaaPFnSigsRunx4
import Derived.Test.YtiifanjjohophaaPFnSigsRunx5
import Derived.Test.YtiifanjjohophaaPFnSigsRunx6
namespace Go.Proofs.Ytiifanjjohophaa.PFnSigsRun
open Go.RowKit Go.Proofs.YtiifanjjohophaaW.PrintWords Go.Proofs.YtiifanjjohophaaW.PrintLast Go.Proofs.YtiifanjjohophaaW.PrintMore
attribute [local go_sem] max2_int min2_int max_two min_two max_three min_three max_four min_four   -- for this text's walks alone
set_option linter.unusedVariables false
set_option linter.unusedSimpArgs false

attribute [local go_sem ↓] isSome_setCell_
/-! ### spec_l92Sigs: function 42 -/
def spec_l92Sigs.l0 : Nat → Int → List Int → Int → List Bool → List Bool → List Int → Option (List Bool × List Bool × List Int × Int)
|0, _, _, _, _, _, _ => none
|k + 1, x4, x1000, x1001, x145000, x145001, x145002 => if x4 < 8 then ((spec_l6Rd_pick.f k x1000 x1001 3).bind fun bt145 => (if 0 ≤ x4 then (if x4 < (x145000.length : Int) then ((some (x145000.set (x4 : Int).toNat (bt145.1 == 0) : List Bool)).bind fun y147 => ((spec_l10Fixed.f (wrap64 (x4 + 1))).bind fun t148 => (if t148 = true then (spec_l92Sigs.l0 k (wrap64 (x4 + 1)) x1000 bt145.2 y147 x145001 x145002) else ((spec_l6Rd_pick.f k x1000 bt145.2 3).bind fun bt149 => (if x4 < (x145001.length : Int) then ((some (([0, 0, 1, 4] : List Int) : List Int)).bind fun y152 => ((spec_l6Rd_pick.f k x1000 bt149.2 4).bind fun bt155 => (if 0 ≤ bt155.1 then (if bt155.1 < (y152.length : Int) then (if x4 < (x145002.length : Int) then (spec_l92Sigs.l0 k (wrap64 (x4 + 1)) x1000 bt155.2 y147 (x145001.set (x4 : Int).toNat (bt149.1 == 0)) (x145002.set (x4 : Int).toNat (rd y152 bt155.1))) else (none)) else (none)) else (none)))) else (none)))))) else (none)) else (none))) else ((spec_l6Rd_pick.f k x1000 x1001 24).bind fun bt159 => (if bt159.1 = 0 then ((spec_l6Rd_pick.f k x1000 bt159.2 8).bind fun bt161 => ((spec_l6Rd_pick.f k x1000 bt161.2 6).bind fun bt163 => (if 0 ≤ bt161.1 then (if bt161.1 < (x145002.length : Int) then (some (x145000, x145001, (x145002.set (bt161.1 : Int).toNat bt163.1), bt163.2)) else (none)) else (none)))) else (if bt159.1 = 1 then ((spec_l6Rd_pick.f k x1000 bt159.2 2).bind fun bt166 => (if 0 ≤ bt166.1 then (if bt166.1 < (x145001.length : Int) then (some (x145000, (x145001.set (bt166.1 : Int).toNat true), x145002, bt166.2)) else (none)) else (none))) else (if bt159.1 = 2 then (if 1 ≤ (x145000.length : Int) then (some ((x145000.drop (1 : Int).toNat), x145001, x145002, bt159.2)) else (none)) else (some (x145000, x145001, x145002, bt159.2))))))
def spec_l92Sigs.f (k : Nat) (s0_0 : List Int) (s0_1 : Int) : Option (List Bool × List Bool × List Int × Int) := (spec_SigsNew.f).bind fun bt135 => (spec_l92Sigs.l0 k 0 s0_0 s0_1 bt135.1 bt135.2.1 bt135.2.2)
theorem spec_l92Sigs.mono_l : ∀ k, (∀ y0 y1 y2 y3 y4 y5, LeO (spec_l92Sigs.l0 k y0 y1 y2 y3 y4 y5) (spec_l92Sigs.l0 (k + 1) y0 y1 y2 y3 y4 y5))
|0 => fun _ _ _ _ _ _ r h => by simp [spec_l92Sigs.l0] at h
|k + 1 => by
  have ih0 := spec_l92Sigs.mono_l k
  ·intro y0 y1 y2 y3 y4 y5
   unfold spec_l92Sigs.l0
   repeat' first
  |(with_reducible exact ih0 _ _ _ _ _ _)
  |(with_reducible exact spec_l6Rd_pick.mono _ _ _ _)
  |(with_reducible exact LeO.refl _)
  |(with_reducible exact LeO.none _)
  |(with_reducible refine LeO.ite ?_ ?_)
  |(with_reducible refine LeO.bind ?_ (fun _ => ?_))
  |exact ih0 _ _ _ _ _ _
  |exact spec_l6Rd_pick.mono _ _ _ _
  |exact LeO.none _
  |refine LeO.ite ?_ ?_
  |refine LeO.bind ?_ (fun _ => ?_)
theorem spec_l92Sigs.mono : ∀ a0 a1 k, LeO (spec_l92Sigs.f k a0 a1) (spec_l92Sigs.f (k + 1) a0 a1) := by
 intro a0 a1 k
 have ih0 := spec_l92Sigs.mono_l k
 unfold spec_l92Sigs.f
 repeat' first
  |(with_reducible exact ih0 _ _ _ _ _ _)
  |(with_reducible exact spec_l6Rd_pick.mono _ _ _ _)
  |(with_reducible exact LeO.refl _)
  |(with_reducible exact LeO.none _)
  |(with_reducible refine LeO.ite ?_ ?_)
  |(with_reducible refine LeO.bind ?_ (fun _ => ?_))
  |exact ih0 _ _ _ _ _ _
  |exact spec_l6Rd_pick.mono _ _ _ _
  |exact LeO.none _
  |refine LeO.ite ?_ ?_
  |refine LeO.bind ?_ (fun _ => ?_)
def spec_l92Sigs.T5 : Bool × List (List Nat × List Nat) := (true, [([], []), ([0], [0]), ([], []), ([], []), ([3], [3]), ([4], [4]), ([1, 2, 0, 1, 2, 3, 4, 5], [1, 2]), ([6, 5, 4, 0, 1, 2, 3, 4, 5], [5, 6])])
def spec_l92Sigs.B5 : List Nat := [0, 1, 0, 0, 8, 24, 63, 127]
theorem spec_l92Sigs.tab5 : rtab .any (opsOf Try.f42 5) = spec_l92Sigs.T5 := by kernel_rfl
theorem spec_l92Sigs.bits5 : waitsOk spec_l92Sigs.T5.2 spec_l92Sigs.B5 = true := by kernel_rfl
def spec_l92Sigs.T7 : Bool × List (List Nat × List Nat) := (true, [([], []), ([0], [0]), ([], []), ([], []), ([3], [3]), ([4], [4]), ([1, 2, 0, 1, 2, 3, 4, 5], [1, 2]), ([6, 5, 4, 0, 1, 2, 3, 4, 5], [5, 6])])
def spec_l92Sigs.B7 : List Nat := [0, 1, 0, 0, 8, 24, 63, 127]
theorem spec_l92Sigs.tab7 : rtab .any (opsOf Try.f42 7) = spec_l92Sigs.T7 := by kernel_rfl
theorem spec_l92Sigs.bits7 : waitsOk spec_l92Sigs.T7.2 spec_l92Sigs.B7 = true := by kernel_rfl
def spec_l92Sigs.T8 : Bool × List (List Nat × List Nat) := (true, [([], []), ([0], [0]), ([], []), ([], []), ([], []), ([4], [4]), ([3, 5], [3, 5]), ([6], [6]), ([1, 2, 0, 1, 2, 3, 4, 5, 6, 7], [1, 2]), ([8, 7, 5, 0, 1, 2, 3, 4, 5, 6, 7], [7, 8])])
def spec_l92Sigs.B8 : List Nat := [0, 1, 0, 0, 0, 16, 56, 120, 255, 511]
theorem spec_l92Sigs.tab8 : rtab .any (opsOf Try.f42 8) = spec_l92Sigs.T8 := by kernel_rfl
theorem spec_l92Sigs.bits8 : waitsOk spec_l92Sigs.T8.2 spec_l92Sigs.B8 = true := by kernel_rfl
def spec_l92Sigs.T11 : Bool × List (List Nat × List Nat) := (true, [([], []), ([0], [0]), ([], []), ([2], [2]), ([], []), ([4, 3], [4]), ([1, 3, 0, 1, 2, 3, 4, 5], [1, 3]), ([6, 5, 5, 0, 1, 2, 3, 4, 5], [5, 6])])
def spec_l92Sigs.B11 : List Nat := [0, 1, 0, 4, 0, 28, 63, 127]
theorem spec_l92Sigs.tab11 : rtab .any (opsOf Try.f42 11) = spec_l92Sigs.T11 := by kernel_rfl
theorem spec_l92Sigs.bits11 : waitsOk spec_l92Sigs.T11.2 spec_l92Sigs.B11 = true := by kernel_rfl
abbrev z42q0 : Array Bool := bQ 8 0
abbrev z42q1 : Array Bool := bQ 8 1
abbrev z42q2 : Array Bool := bQ 8 5
abbrev z42q3 : Array Bool := bQ 8 13
abbrev z42q4 : Array Bool := bQ 8 15
abbrev z42q5 : Array Bool := bQ 8 31
abbrev z42q6 : Array Bool := bQ 8 63
abbrev z42q7 : Array Bool := bQ 8 127
abbrev z42q8 : Array Bool := bQ 8 255
abbrev z42q9 : Array Bool := bQ 10 0
abbrev z42q10 : Array Bool := bQ 10 1
abbrev z42q11 : Array Bool := bQ 10 5
abbrev z42q12 : Array Bool := bQ 10 21
abbrev z42q13 : Array Bool := bQ 10 23
abbrev z42q14 : Array Bool := bQ 10 63
abbrev z42q15 : Array Bool := bQ 10 31
abbrev z42q16 : Array Bool := bQ 10 55
abbrev z42q17 : Array Bool := bQ 10 127
abbrev z42q18 : Array Bool := bQ 10 255
abbrev z42q19 : Array Bool := bQ 10 511
abbrev z42q20 : Array Bool := bQ 10 1023
abbrev z42q21 : Array Bool := bQ 8 21
abbrev z42q22 : Array Bool := bQ 8 23
set_option maxHeartbeats 2000000 in
set_option maxRecDepth 100000 in
theorem spec_l92Sigs.calls (k:Nat) (g:Nat) (s0_0:List Int) (s0_1:Int) (r1:List Bool) (r2:List Bool) (r3:List Int) (r4:Int) (w0 w:World) (hI:IsS60 w0 w g s0_0 s0_1) (hB:Below w0.heap.size w0 w) (h:spec_l92Sigs.f k s0_0 s0_1=some (r1,r2,r3,r4)) :
  Calls Try.prog 42 #[.pointer (some ⟨g,0,none⟩)] w fun e w'=>∃ v0_ v1_ v2_:Value,e=.returned (.agg #[v0_,v1_,v2_])∧Kd.Q Kd.bool 4 w' w.heap.size (fun k_=>some k_≠(v1_:Value).ownBlock) v0_ r1∧Kd.R Kd.bool 4 w' w.heap.size (fun k_=>some k_≠(v0_:Value).ownBlock) v1_ r2∧Kd.R (Kd.int .i64) 3 w' w.heap.size (fun _=>True) v2_ r3∧IsS60 w0 w' g s0_0 r4∧Below w0.heap.size w0 w'∧KeepBut w w' g none:=by
 have hu26:=Try.underlying26
 have HI0:=Am hI
 have HK:=Am (KeepBut.refl w g none)
 have HL:=Am hB.size
 clear hI
 have HW0:=Am hB.size
 have HB:=Am hB
 clear hB
 have H:((spec_SigsNew.f).bind fun bt135=>(spec_l92Sigs.l0 k 0 s0_0 s0_1 bt135.1 bt135.2.1 bt135.2.2))=some (r1,r2,r3,r4):=h
 clear h
 replace H:=oC H
 obtain ⟨⟨t135,t138,t141⟩,A20,H⟩:=H
 replace H:(spec_l92Sigs.l0 k 0 s0_0 s0_1 t135 t138 t141)=some (r1,r2,r3,r4):=H
 have A2:=Am A20
 clear A20
 have H':=Am H
 clear H
 go_enter Try.func42,Try.ntmps42
 go_wp2_with (first|((with_reducible refine gD (N:=2) rfl ?_);refine bI ?hg (N:=2) ?hd (cs:=#[.slice none 0 0,.slice none 0 0,.slice none 0 0]) (t:=26) ?hr ?_;(case hd=>rfl);(case hg=>rfl);(case hr=>first|(go_simp;done)|(go_simp;rfl));intro Bh hg w3 hbox hb;have n0_:=Am (IsS60.below (by repeat (first|(with_reducible first|exact HI0.out|apply IsS60.alloc|apply IsS60.drewN|apply IsS60.drew|apply IsS60.set_1)|exact HI0.out)) hb);have n1_:=Am (KeepBut.trans (by repeat (first|(with_reducible first|exact HK.out|apply KeepBut.set_|apply keep_drewN|apply keep_drew|apply keep_alloc)|exact HK.out)) (KeepBut.of_below hb g none) (.inl rfl));have n2_:=Am (bP (by repeat (first|(with_reducible first|exact HB.out|apply oA|apply pN|apply o1|refine bS ?_ (IsS60.ge HI0.out))|exact HB.out)) hb);have n3_:=Am (hbox);have n4_:=Am ((by rw [hg];exact (keep_size (w:=w) (g:=g) (row:=none) (by repeat (first|(with_reducible first|exact HK.out|apply KeepBut.set_|apply keep_drewN|apply keep_drew|apply keep_alloc)|exact HK.out))):w.heap.size≤Bh));have n5_:=Am ((Nat.le_trans HW0.out (by rw [hg];exact (keep_size (w:=w) (g:=g) (row:=none) (by repeat (first|(with_reducible first|exact HK.out|apply KeepBut.set_|apply keep_drewN|apply keep_drew|apply keep_alloc)|exact HK.out))):w.heap.size≤Bh):w0.heap.size≤Bh));have n6_:=Am ((by rw [hg];exact nI (IsS60.lt (show IsS60 w0 _ g s0_0 s0_1 from by repeat (first|(with_reducible first|exact HI0.out|apply IsS60.alloc|apply IsS60.drewN|apply IsS60.drew|apply IsS60.set_1)|exact HI0.out))):g≠Bh));have n7_:=Am ((by rw [hg];exact nJ (IsS60.lt (show IsS60 w0 _ g s0_0 s0_1 from by repeat (first|(with_reducible first|exact HI0.out|apply IsS60.alloc|apply IsS60.drewN|apply IsS60.drew|apply IsS60.set_1)|exact HI0.out))):Bh≠g));clear HI0 HK HB;revert n0_ n1_ n2_ n3_ n4_ n5_ n6_ n7_;intro HI0 HK HB Be Bj Bk Bf Bo;clear hb hbox hg)|((with_reducible refine gC (f:=15) rfl ?_);refine goesL_ (some 5) rfl rfl Try.func15 (by kernel_rfl) rfl #[] rfl (by (try simp only [lM,lC,lN]);first|done|rfl|(simp only [lD,lT];rfl)) ?_;(with_reducible refine (spec_SigsNew.calls  t135 t138 t141 _ A2.out).mono ?_);rintro e w4 ⟨v136,v139,v142,rfl,ho0,ho1,ho2,hb⟩;refine ⟨_,rfl,?_⟩;have n0_:=Am (rW ho0 (keep_size (w:=w) (g:=g) (row:=none) (by repeat (first|(with_reducible first|exact HK.out|apply KeepBut.set_|apply keep_drewN|apply keep_drew|apply keep_alloc|refine keep_far ?_ Bj.out _)|exact HK.out))));have n1_:=Am (rW ho1 (keep_size (w:=w) (g:=g) (row:=none) (by repeat (first|(with_reducible first|exact HK.out|apply KeepBut.set_|apply keep_drewN|apply keep_drew|apply keep_alloc|refine keep_far ?_ Bj.out _)|exact HK.out))));have n2_:=Am (rW ho2 (keep_size (w:=w) (g:=g) (row:=none) (by repeat (first|(with_reducible first|exact HK.out|apply KeepBut.set_|apply keep_drewN|apply keep_drew|apply keep_alloc|refine keep_far ?_ Bj.out _)|exact HK.out))));have n3_:=Am (IsS60.below (by repeat (first|(with_reducible first|exact HI0.out|apply IsS60.alloc|apply IsS60.drewN|apply IsS60.drew|apply IsS60.set_1|refine IsS60.far ?_ Bf.out _)|exact HI0.out)) hb);have n4_:=Am (bX Be.out hb);have n5_:=Am (KeepBut.trans (by repeat (first|(with_reducible first|exact HK.out|apply KeepBut.set_|apply keep_drewN|apply keep_drew|apply keep_alloc|refine keep_far ?_ Bj.out _)|exact HK.out)) (KeepBut.of_below hb g none) (.inl rfl));have n6_:=Am (bP (by repeat (first|(with_reducible first|exact HB.out|apply oA|apply pN|apply o1|refine bS ?_ (IsS60.ge HI0.out)|refine bS ?_ Bk.out)|exact HB.out)) hb);clear HI0 Be HK HB;revert n0_ n1_ n2_ n3_ n4_ n5_ n6_;intro Bs Bt Bu HI0 Be HK HB;(try clear hb);(try clear hb2);(try clear hk);(try clear hi);(try clear ho0);(try clear ho1);(try clear ho2))|((with_reducible refine gD (N:=3) rfl ?_);refine bI ?hg (N:=3) ?hd (cs:=#[.slice none 0 0,.slice none 0 0,.slice none 0 0]) (t:=26) ?hr ?_;(case hd=>rfl);(case hg=>rfl);(case hr=>first|(go_simp;done)|(go_simp;rfl));intro Bi hg w5 hbox hb;have n0_:=Am (rB (rL Bs.out) hb);have n1_:=Am (rB (rL Bt.out) hb);have n2_:=Am (rB (rL Bu.out) hb);have n3_:=Am (IsS60.below (by repeat (first|(with_reducible first|exact HI0.out|apply IsS60.alloc|apply IsS60.drewN|apply IsS60.drew|apply IsS60.set_1|refine IsS60.far ?_ Bf.out _)|exact HI0.out)) hb);have n4_:=Am (bX Be.out hb);have n5_:=Am (KeepBut.trans (by repeat (first|(with_reducible first|exact HK.out|apply KeepBut.set_|apply keep_drewN|apply keep_drew|apply keep_alloc|refine keep_far ?_ Bj.out _)|exact HK.out)) (KeepBut.of_below hb g none) (.inl rfl));have n6_:=Am (bP (by repeat (first|(with_reducible first|exact HB.out|apply oA|apply pN|apply o1|refine bS ?_ (IsS60.ge HI0.out)|refine bS ?_ Bk.out)|exact HB.out)) hb);have n7_:=Am (hbox);have n8_:=Am ((by rw [hg];exact (keep_size (w:=w) (g:=g) (row:=none) (by repeat (first|(with_reducible first|exact HK.out|apply KeepBut.set_|apply keep_drewN|apply keep_drew|apply keep_alloc|refine keep_far ?_ Bj.out _)|exact HK.out))):w.heap.size≤Bi));have n9_:=Am ((Nat.le_trans HW0.out (by rw [hg];exact (keep_size (w:=w) (g:=g) (row:=none) (by repeat (first|(with_reducible first|exact HK.out|apply KeepBut.set_|apply keep_drewN|apply keep_drew|apply keep_alloc|refine keep_far ?_ Bj.out _)|exact HK.out))):w.heap.size≤Bi):w0.heap.size≤Bi));have n10_:=Am ((nL Be.out hg));have n11_:=Am ((nG Be.out hg));have n12_:=Am ((by rw [hg];exact nI (IsS60.lt (show IsS60 w0 _ g s0_0 s0_1 from by repeat (first|(with_reducible first|exact HI0.out|apply IsS60.alloc|apply IsS60.drewN|apply IsS60.drew|apply IsS60.set_1|refine IsS60.far ?_ Bf.out _)|exact HI0.out))):g≠Bi));have n13_:=Am ((by rw [hg];exact nJ (IsS60.lt (show IsS60 w0 _ g s0_0 s0_1 from by repeat (first|(with_reducible first|exact HI0.out|apply IsS60.alloc|apply IsS60.drewN|apply IsS60.drew|apply IsS60.set_1|refine IsS60.far ?_ Bf.out _)|exact HI0.out))):Bi≠g));clear Bs Bt Bu HI0 Be HK HB;revert n0_ n1_ n2_ n3_ n4_ n5_ n6_ n7_ n8_ n9_ n10_ n11_ n12_ n13_;intro Bs Bt Bu HI0 Be HK HB Bd Bl Bm Bp Br Bg Bn;clear hb hbox hg;obtain ⟨Ao6,co6,eo6⟩:=rC Bs.out;subst eo6;have DU:=Br.out;have DV:=Bp.out;have DW:=Bn.out;have DX:=Bg.out;have Bw:=cz0 Bd.out;have Bx:=cz1 Bd.out;have By:=cz2 Bd.out;have Bz:=bF Bd.out 0;have BA:=bF Bd.out 1;have BB:=bF Bd.out 2;obtain ⟨Ao10,co10,eo10⟩:=rC Bt.out;subst eo10;obtain ⟨Ao11,co11,eo11⟩:=rC Bu.out;subst eo11))
 go_loopg [4] k (fun kq v4 w'=>∃ (x4_1:Int) (x1001_1:Int) (x145000_1:List Bool) (x145001_1:List Bool) (x145002_1:List Int) (u145000:Value) (u145001:Value) (u145002:Value),v4=.int .i64 x4_1∧Aside0 (spec_l92Sigs.l0 kq x4_1 s0_0 x1001_1 x145000_1 x145001_1 x145002_1=some (r1,r2,r3,r4))∧Aside0 (kq≤k)∧Aside0 (Kd.Q Kd.bool 4 w' w.heap.size (fun k_=>some k_≠(u145001:Value).ownBlock) u145000 x145000_1)∧Aside0 (Kd.R Kd.bool 4 w' w.heap.size (fun k_=>some k_≠(u145000:Value).ownBlock) u145001 x145001_1)∧Aside0 (Kd.R (Kd.int .i64) 3 w' w.heap.size (fun _=>True) u145002 x145002_1)∧Aside0 (w'.heap[Bh]?=some (.cells #[(.slice none 0 0),(.slice none 0 0),(.slice none 0 0)] 26 (0,0)))∧Aside0 (w'.heap[Bi]?=some (.cells #[u145000,u145001,u145002] 26 (0,0)))∧Aside0 (IsS60 w0 w' g s0_0 x1001_1)∧Aside0 (KeepBut w w' g none)∧Aside0 (Below w0.heap.size w0 w'))
 case atStart=>exact ⟨(0),(s0_1),(t135),(t138),(t141),(.slice Ao6 t135.length co6),(.slice Ao10 t138.length co10),(.slice Ao11 t141.length co11),(by first|rfl|(simp;done)|(simp [*];done)),H',⟨nR _⟩,⟨Kd.Q_of_R (by (with_reducible repeat (first|apply rA|apply rN|apply rD));exact rM (rF (p:=⟨Bi,2,none⟩) (rF (p:=⟨Bi,1,none⟩) (rF (p:=⟨Bi,0,none⟩) (rT Bs.out Bd.out (by decide)) (fun _ hk=>hk.2) (.slice Ao6 t135.length co6)) (fun _ hk=>hk.2) (.slice Ao10 t138.length co10)) (fun _ hk=>hk.2) (.slice Ao11 t141.length co11)) (fun _ hk=>hk.1))⟩,⟨by (with_reducible repeat (first|apply rA|apply rN|apply rD));exact rM (rF (p:=⟨Bi,2,none⟩) (rF (p:=⟨Bi,1,none⟩) (rF (p:=⟨Bi,0,none⟩) (rT Bt.out Bd.out (by decide)) (fun _ hk=>hk.2) (.slice Ao6 t135.length co6)) (fun _ hk=>hk.2) (.slice Ao10 t138.length co10)) (fun _ hk=>hk.2) (.slice Ao11 t141.length co11)) (fun _ hk=>hk.1)⟩,⟨by (with_reducible repeat (first|apply rA|apply rN|apply rD));exact rM (rF (p:=⟨Bi,2,none⟩) (rF (p:=⟨Bi,1,none⟩) (rF (p:=⟨Bi,0,none⟩) (rT Bu.out Bd.out (by decide)) (fun _ hk=>hk.2) (.slice Ao6 t135.length co6)) (fun _ hk=>hk.2) (.slice Ao10 t138.length co10)) (fun _ hk=>hk.2) (.slice Ao11 t141.length co11)) (fun _ hk=>trivial)⟩,⟨by (with_reducible repeat (first|refine bN ?_ _|refine bD ?_|refine bA ?_ _|refine bE ?_ Bp.out _));exact Be.out⟩,⟨by (with_reducible repeat (first|refine bN ?_ _|refine bD ?_|refine bA ?_ _));refine bT (cs:=#[.slice Ao6 t135.length co6,.slice Ao10 t138.length co10,.slice none 0 0]) ?_ 2 _ rfl;(with_reducible repeat (first|refine bN ?_ _|refine bD ?_|refine bA ?_ _));refine bT (cs:=#[.slice Ao6 t135.length co6,.slice none 0 0,.slice none 0 0]) ?_ 1 _ rfl;(with_reducible repeat (first|refine bN ?_ _|refine bD ?_|refine bA ?_ _));refine bT (cs:=#[.slice none 0 0,.slice none 0 0,.slice none 0 0]) ?_ 0 _ rfl;(with_reducible repeat (first|refine bN ?_ _|refine bD ?_|refine bA ?_ _));exact Bd.out⟩,⟨by repeat (first|(with_reducible first|exact HI0.out|apply IsS60.alloc|apply IsS60.drewN|apply IsS60.drew|apply IsS60.set_1|refine IsS60.far ?_ Bf.out _|refine IsS60.far ?_ Bg.out _)|exact HI0.out)⟩,⟨by repeat (first|(with_reducible first|exact HK.out|apply KeepBut.set_|apply keep_drewN|apply keep_drew|apply keep_alloc|refine keep_far ?_ Bj.out _|refine keep_far ?_ Bl.out _)|exact HK.out)⟩,⟨by repeat (first|(with_reducible first|exact HB.out|apply oA|apply pN|apply o1|refine bS ?_ (IsS60.ge HI0.out)|refine bS ?_ Bk.out|refine bS ?_ Bm.out)|exact HB.out)⟩⟩
 case round =>
  clear H'
  try clear c1
  try clear p2
  try clear c4
  try clear c7
  try clear c8
  try clear Bw
  try clear Bx
  try clear By
  try clear Bz
  try clear BA
  try clear BB
  obtain ⟨x4_1,x1001_1,x145000_1,x145001_1,x145002_1,u145000,u145001,u145002,rfl,HA,HK1,Ba,Bb,Bc,Be,Bd,HI0,HK,HB⟩:=hrel
  cases gk with
 |zero=>exact absurd HA.out (by simp [spec_l92Sigs.l0])
 |succ k1 =>
   have H:=HA.out
   clear HA
   simp only [spec_l92Sigs.l0] at H
   by_cases c12:x4_1<8
   rotate_left
   ·rw [if_neg c12] at H
    have c12b0:decide (x4_1<8)=false:=dF c12
    clear c12
    replace H:=oC H
    obtain ⟨⟨t159,t160⟩,A460,H⟩:=H
    replace H:(if t159=0 then ((spec_l6Rd_pick.f k1 s0_0 t160 8).bind fun bt161=>((spec_l6Rd_pick.f k1 s0_0 bt161.2 6).bind fun bt163=>(if 0≤bt161.1 then (if bt161.1<(x145002_1.length:Int) then (some (x145000_1,x145001_1,(x145002_1.set (bt161.1:Int).toNat bt163.1),bt163.2)) else (none)) else (none)))) else (if t159=1 then ((spec_l6Rd_pick.f k1 s0_0 t160 2).bind fun bt166=>(if 0≤bt166.1 then (if bt166.1<(x145001_1.length:Int) then (some (x145000_1,(x145001_1.set (bt166.1:Int).toNat true),x145002_1,bt166.2)) else (none)) else (none))) else (if t159=2 then (if 1≤(x145000_1.length:Int) then (some ((x145000_1.drop (1:Int).toNat),x145001_1,x145002_1,t160)) else (none)) else (some (x145000_1,x145001_1,x145002_1,t160)))))=some (r1,r2,r3,r4):=H
    have A46:=Am A460
    clear A460
    by_cases c47:t159=0
    ·rw [if_pos c47] at H
     have c47b0:(t159 == 0)=true:=beq_iff_eq.mpr c47
     have c47b1:(t159 != 0)=false:=bne_eq_false_iff_eq.mpr c47
     clear c47
     replace H:=oC H
     obtain ⟨⟨t161,t162⟩,A480,H⟩:=H
     replace H:((spec_l6Rd_pick.f k1 s0_0 t162 6).bind fun bt163=>(if 0≤t161 then (if t161<(x145002_1.length:Int) then (some (x145000_1,x145001_1,(x145002_1.set (t161:Int).toNat bt163.1),bt163.2)) else (none)) else (none)))=some (r1,r2,r3,r4):=H
     have A48:=Am A480
     clear A480
     replace H:=oC H
     obtain ⟨⟨t163,t164⟩,A490,H⟩:=H
     replace H:(if 0≤t161 then (if t161<(x145002_1.length:Int) then (some (x145000_1,x145001_1,(x145002_1.set (t161:Int).toNat t163),t164)) else (none)) else (none))=some (r1,r2,r3,r4):=H
     have A49:=Am A490
     clear A490
     by_cases c50:0≤t161
     rotate_left
     ·rw [if_neg c50] at H
      exact absurd H (by simp)
     rw [if_pos c50] at H
     have c50b0:decide (0≤t161)=true:=dT c50
     clear c50
     by_cases c51:t161<(x145002_1.length:Int)
     rotate_left
     ·rw [if_neg c51] at H
      exact absurd H (by simp)
     rw [if_pos c51] at H
     have c51b0:decide (t161<(x145002_1.length:Int))=true:=dT c51
     clear c51
     obtain ⟨y165,hy165⟩:∃ y_:List Int,y_=(x145002_1.set (t161:Int).toNat t163):=⟨_,rfl⟩
     replace H:(some (x145000_1,x145001_1,y165,t164))=some (r1,r2,r3,r4):=by first|(rw [hy165];with_reducible exact H)|(have H2_:=(Option.bind_some _ _).symm.trans H;rw [hy165];with_reducible exact H2_)|(have H2_:=(Option.bind_some _ _).symm.trans H;with_reducible exact H2_)|with_reducible exact H|(rw [hy165];exact H)|exact H
     have Ny165:=Am hy165
     clear hy165
     simp only [Option.some.injEq,Prod.mk.injEq] at H
     obtain ⟨rfl,rfl,rfl,rfl⟩:=H
     try go_wp2_with (first|((with_reducible refine gC (f:=45) rfl ?_);refine goesL_ (some 38) rfl rfl Try.func45 (by kernel_rfl) rfl #[.pointer (some ⟨g,0,none⟩),.int .i64 24] rfl (by (try simp only [lM,lC,lN]);first|done|rfl|(simp only [lD,lT];rfl)) ?_;(with_reducible refine (spec_l6Rd_pick.calls k1 g s0_0 x1001_1 24 t159 t160 w0 _ ?side1 ?side2 A46.out).mono ?_);(case side1=>repeat (first|(with_reducible first|exact HI0.out|apply IsS60.alloc|apply IsS60.drewN|apply IsS60.drew|apply IsS60.set_1|refine IsS60.far ?_ Bf.out _|refine IsS60.far ?_ Bg.out _)|exact HI0.out));(case side2=>repeat (first|(with_reducible first|exact HB.out|apply oA|apply pN|apply o1|refine bS ?_ (IsS60.ge HI0.out)|refine bS ?_ Bk.out|refine bS ?_ Bm.out)|exact HB.out));rintro e w53 ⟨rfl,hi,hb,hk⟩;refine ⟨_,rfl,?_⟩;have n0_:=Am (qM (Kd.Q_keep (IsS60.apartQ (show IsS60 w0 _ g s0_0 x1001_1 from by repeat (first|(with_reducible first|exact HI0.out|apply IsS60.alloc|apply IsS60.drewN|apply IsS60.drew|apply IsS60.set_1|refine IsS60.far ?_ Bf.out _|refine IsS60.far ?_ Bg.out _)|exact HI0.out)) (qL Ba.out) (by decide)) hk (fun _ h=>h.2)) (fun _ h=>h.1));have n1_:=Am (rM (Kd.R_keep (IsS60.apart (show IsS60 w0 _ g s0_0 x1001_1 from by repeat (first|(with_reducible first|exact HI0.out|apply IsS60.alloc|apply IsS60.drewN|apply IsS60.drew|apply IsS60.set_1|refine IsS60.far ?_ Bf.out _|refine IsS60.far ?_ Bg.out _)|exact HI0.out)) (rL Bb.out) (by decide)) hk (fun _ h=>h.2)) (fun _ h=>h.1));have n2_:=Am (rM (Kd.R_keep (IsS60.apart (show IsS60 w0 _ g s0_0 x1001_1 from by repeat (first|(with_reducible first|exact HI0.out|apply IsS60.alloc|apply IsS60.drewN|apply IsS60.drew|apply IsS60.set_1|refine IsS60.far ?_ Bf.out _|refine IsS60.far ?_ Bg.out _)|exact HI0.out)) (rL Bc.out) (by decide)) hk (fun _ h=>h.2)) (fun _ h=>h.1));have n3_:=Am (KeepBut.blk hk (g':=Bh) (o:=.cells #[.slice none 0 0,.slice none 0 0,.slice none 0 0] 26 (0,0)) (bL Be.out) Bo.out (by simp));have n4_:=Am (KeepBut.blk hk (g':=Bi) (o:=.cells #[u145000,u145001,u145002] 26 (0,0)) (bL Bd.out) Bn.out (by simp));have n5_:=Am (KeepBut.trans (by repeat (first|(with_reducible first|exact HK.out|apply KeepBut.set_|apply keep_drewN|apply keep_drew|apply keep_alloc|refine keep_far ?_ Bj.out _|refine keep_far ?_ Bl.out _)|exact HK.out)) hk (.inl rfl));have n6_:=Am (hb);have n7_:=Am (hi);clear Ba Bb Bc Be Bd HK HB HI0;revert n0_ n1_ n2_ n3_ n4_ n5_ n6_ n7_;intro Ba Bb Bc Be Bd HK HB HI0;(try clear hb);(try clear hb2);(try clear hk);(try clear hi)))
     have n0_:=Am (Kd.Q_drew Ba.out)
     have n1_:=Am (rD Bb.out)
     have n2_:=Am (rD Bc.out)
     have n3_:=Am (bD Be.out)
     have n4_:=Am (bD Bd.out)
     have n5_:=Am (IsS60.drew HI0.out)
     have n6_:=Am (keep_drew HK.out)
     have n7_:=Am (o1 HB.out)
     clear Ba
     clear Bb
     clear Bc
     clear Be
     clear Bd
     clear HI0
     clear HK
     clear HB
     have Ba:=n0_
     have Bb:=n1_
     have Bc:=n2_
     have Be:=n3_
     have Bd:=n4_
     have HI0:=n5_
     have HK:=n6_
     have HB:=n7_
     clear n0_ n1_ n2_ n3_ n4_ n5_ n6_ n7_
     refine start_ (n:=8) (S:=fun w'=>w'.cell? ⟨Bi,0,none⟩=some (u145000)∧w'.cell? ⟨Bi,1,none⟩=some (u145001)∧w'.cell? ⟨Bi,2,none⟩=some (u145002)) (ds:=[7]) z42q0 (by kernel_rfl) rfl rfl ⟨(bC Bd.out 0).trans rfl,(bC Bd.out 1).trans rfl,(bC Bd.out 2).trans rfl⟩ (fun hHeld=>?_);refine with_st spec_l92Sigs.tab11 spec_l92Sigs.bits11 (fun _ _ _ _ _ h=>h) (fun HT_=>?_)
     generalize w53.drew=w54 at Ba Bb Bc Be Bd HI0 HK HB hHeld ⊢
     refine pS 0 41 z42q1 HT_ rfl rfl (by kernel_rfl) (by rfl) (by intro w';go_simp;with_reducible rfl) (by simp only [Act.put,lA,lZ,lS,iw,jw];rfl) ?_
     refine pS 2 43 z42q2 HT_ rfl rfl (by kernel_rfl) (by rfl) (by intro w';go_simp;with_reducible rfl) (by simp only [Act.put,lA,lZ,lS,iw,jw];rfl) ?_
     refine pS 4 45 z42q21 HT_ rfl rfl (by kernel_rfl) (by rfl) (by intro w';go_simp;with_reducible rfl) (by simp only [Act.put,lA,lZ,lS,iw,jw];rfl) ?_
     refine tS 1 42 z42q22 HT_ hHeld rfl rfl (by kernel_rfl) (by rfl) (by rintro w' ⟨s0,s1,s2⟩;go_simp;with_reducible rfl) (by simp only [Act.put,lA,lZ,lS,iw,jw];rfl) ?_
     refine oS 3 44 z42q5 HT_ rfl rfl (by kernel_rfl) (by decide) (fun K hK=>?_)
     refine goes_ Try.func45 (by kernel_rfl) rfl #[.pointer (some ⟨g,0,none⟩),.int .i64 8] (by rfl) rfl rfl (by (try simp only [lM,lC,lN]);first|done|rfl|(simp only [lD,lT];rfl)) ?_
     with_reducible refine (spec_l6Rd_pick.calls k1 g s0_0 t160 8 t161 t162 w0 _ ?side1 ?side2 A48.out).mono ?_
     (case side1=>repeat (first|(with_reducible first|exact HI0.out|apply IsS60.alloc|apply IsS60.drewN|apply IsS60.drew|apply IsS60.set_1|refine IsS60.far ?_ Bf.out _|refine IsS60.far ?_ Bg.out _)|exact HI0.out))
     (case side2=>repeat (first|(with_reducible first|exact HB.out|apply oA|apply pN|apply o1|refine bS ?_ (IsS60.ge HI0.out)|refine bS ?_ Bk.out|refine bS ?_ Bm.out)|exact HB.out))
     rintro e w55 ⟨rfl,hi,hb,hk⟩
     refine ⟨_,rfl,?_⟩
     have n0_:=Am (qM (Kd.Q_keep (IsS60.apartQ (show IsS60 w0 _ g s0_0 t160 from by repeat (first|(with_reducible first|exact HI0.out|apply IsS60.alloc|apply IsS60.drewN|apply IsS60.drew|apply IsS60.set_1|refine IsS60.far ?_ Bf.out _|refine IsS60.far ?_ Bg.out _)|exact HI0.out)) (qL Ba.out) (by decide)) hk (fun _ h=>h.2)) (fun _ h=>h.1))
     have n1_:=Am (rM (Kd.R_keep (IsS60.apart (show IsS60 w0 _ g s0_0 t160 from by repeat (first|(with_reducible first|exact HI0.out|apply IsS60.alloc|apply IsS60.drewN|apply IsS60.drew|apply IsS60.set_1|refine IsS60.far ?_ Bf.out _|refine IsS60.far ?_ Bg.out _)|exact HI0.out)) (rL Bb.out) (by decide)) hk (fun _ h=>h.2)) (fun _ h=>h.1))
     have n2_:=Am (rM (Kd.R_keep (IsS60.apart (show IsS60 w0 _ g s0_0 t160 from by repeat (first|(with_reducible first|exact HI0.out|apply IsS60.alloc|apply IsS60.drewN|apply IsS60.drew|apply IsS60.set_1|refine IsS60.far ?_ Bf.out _|refine IsS60.far ?_ Bg.out _)|exact HI0.out)) (rL Bc.out) (by decide)) hk (fun _ h=>h.2)) (fun _ h=>h.1))
     have n3_:=Am (KeepBut.blk hk (g':=Bh) (o:=.cells #[.slice none 0 0,.slice none 0 0,.slice none 0 0] 26 (0,0)) (bL Be.out) Bo.out (by simp))
     have n4_:=Am (KeepBut.blk hk (g':=Bi) (o:=.cells #[u145000,u145001,u145002] 26 (0,0)) (bL Bd.out) Bn.out (by simp))
     have n5_:=Am (KeepBut.trans (by repeat (first|(with_reducible first|exact HK.out|apply KeepBut.set_|apply keep_drewN|apply keep_drew|apply keep_alloc|refine keep_far ?_ Bj.out _|refine keep_far ?_ Bl.out _)|exact HK.out)) hk (.inl rfl))
     have n6_:=Am (hb)
     have n7_:=Am (hi)
     clear Ba
     clear Bb
     clear Bc
     clear Be
     clear Bd
     clear HK
     clear HB
     clear HI0
     have Ba:=n0_
     have Bb:=n1_
     have Bc:=n2_
     have Be:=n3_
     have Bd:=n4_
     have HK:=n5_
     have HB:=n6_
     have HI0:=n7_
     clear n0_ n1_ n2_ n3_ n4_ n5_ n6_ n7_
     (try clear hb)
     (try clear hb2)
     (try clear hk)
     (try clear hi)
     refine hK.out _ _ ⟨(bC Bd.out 0).trans rfl,(bC Bd.out 1).trans rfl,(bC Bd.out 2).trans rfl⟩ (fun hHeld=>?_)
     clear hK K
     refine norm_ (by show Act.put _ (some 44) _=_;simp only [Act.put,lA,lZ,lS,iw,jw];rfl) ?_
     refine oS 5 46 z42q6 HT_ rfl rfl (by kernel_rfl) (by decide) (fun K hK=>?_)
     refine goes_ Try.func45 (by kernel_rfl) rfl #[.pointer (some ⟨g,0,none⟩),.int .i64 6] (by rfl) rfl rfl (by (try simp only [lM,lC,lN]);first|done|rfl|(simp only [lD,lT];rfl)) ?_
     with_reducible refine (spec_l6Rd_pick.calls k1 g s0_0 t162 6 t163 t164 w0 _ ?side1 ?side2 A49.out).mono ?_
     (case side1=>repeat (first|(with_reducible first|exact HI0.out|apply IsS60.alloc|apply IsS60.drewN|apply IsS60.drew|apply IsS60.set_1|refine IsS60.far ?_ Bf.out _|refine IsS60.far ?_ Bg.out _)|exact HI0.out))
     (case side2=>repeat (first|(with_reducible first|exact HB.out|apply oA|apply pN|apply o1|refine bS ?_ (IsS60.ge HI0.out)|refine bS ?_ Bk.out|refine bS ?_ Bm.out)|exact HB.out))
     rintro e w56 ⟨rfl,hi,hb,hk⟩
     refine ⟨_,rfl,?_⟩
     have n0_:=Am (qM (Kd.Q_keep (IsS60.apartQ (show IsS60 w0 _ g s0_0 t162 from by repeat (first|(with_reducible first|exact HI0.out|apply IsS60.alloc|apply IsS60.drewN|apply IsS60.drew|apply IsS60.set_1|refine IsS60.far ?_ Bf.out _|refine IsS60.far ?_ Bg.out _)|exact HI0.out)) (qL Ba.out) (by decide)) hk (fun _ h=>h.2)) (fun _ h=>h.1))
     have n1_:=Am (rM (Kd.R_keep (IsS60.apart (show IsS60 w0 _ g s0_0 t162 from by repeat (first|(with_reducible first|exact HI0.out|apply IsS60.alloc|apply IsS60.drewN|apply IsS60.drew|apply IsS60.set_1|refine IsS60.far ?_ Bf.out _|refine IsS60.far ?_ Bg.out _)|exact HI0.out)) (rL Bb.out) (by decide)) hk (fun _ h=>h.2)) (fun _ h=>h.1))
     have n2_:=Am (rM (Kd.R_keep (IsS60.apart (show IsS60 w0 _ g s0_0 t162 from by repeat (first|(with_reducible first|exact HI0.out|apply IsS60.alloc|apply IsS60.drewN|apply IsS60.drew|apply IsS60.set_1|refine IsS60.far ?_ Bf.out _|refine IsS60.far ?_ Bg.out _)|exact HI0.out)) (rL Bc.out) (by decide)) hk (fun _ h=>h.2)) (fun _ h=>h.1))
     have n3_:=Am (KeepBut.blk hk (g':=Bh) (o:=.cells #[.slice none 0 0,.slice none 0 0,.slice none 0 0] 26 (0,0)) (bL Be.out) Bo.out (by simp))
     have n4_:=Am (KeepBut.blk hk (g':=Bi) (o:=.cells #[u145000,u145001,u145002] 26 (0,0)) (bL Bd.out) Bn.out (by simp))
     have n5_:=Am (KeepBut.trans (by repeat (first|(with_reducible first|exact HK.out|apply KeepBut.set_|apply keep_drewN|apply keep_drew|apply keep_alloc|refine keep_far ?_ Bj.out _|refine keep_far ?_ Bl.out _)|exact HK.out)) hk (.inl rfl))
     have n6_:=Am (hb)
     have n7_:=Am (hi)
     clear Ba
     clear Bb
     clear Bc
     clear Be
     clear Bd
     clear HK
     clear HB
     clear HI0
     have Ba:=n0_
     have Bb:=n1_
     have Bc:=n2_
     have Be:=n3_
     have Bd:=n4_
     have HK:=n5_
     have HB:=n6_
     have HI0:=n7_
     clear n0_ n1_ n2_ n3_ n4_ n5_ n6_ n7_
     (try clear hb)
     (try clear hb2)
     (try clear hk)
     (try clear hi)
     have p52:0≤(t161:Int):=oE (by first|(with_reducible assumption)|assumption)
     have q52:(t161:Int)<((x145002_1.length:Int):Int):=oE (by first|(with_reducible assumption)|assumption)
     obtain ⟨go52,co52,eo52,BE,gl52,cl52,HG52⟩:=Kd.R_form Bc.out (by omega)
     (first|cases eo52|(injection eo52 with ea_ en_ ec_;(first|subst ea_|(injection ea_ with ea_;subst ea_));subst ec_;clear en_))
     have GB52:=Am BE
     have GG52:=Am HG52
     clear BE gl52 HG52
     obtain ⟨hx52_0,hf52_0⟩:=Kd.R_celln 0 Bc.out (t161:Int) p52 q52
     replace p52:=eq_true p52
     replace q52:=eq_true q52
     have HN0_go52:=Am (show g≠go52 from by have h_:=IsS60.own_ne HI0.out Bc.out (by decide);intro e_;exact h_ (by rw [e_];rfl))
     have HP57:=Kd.R_putn Bc.out (t161:Int) t163
     rw [← Ny165.out] at HP57
     have HQ57:=Am HP57
     clear HP57
     refine hK.out _ _ ⟨(bC Bd.out 0).trans rfl,(bC Bd.out 1).trans rfl,(bC Bd.out 2).trans rfl⟩ (fun hHeld=>?_)
     clear hK K
     refine norm_ (by show Act.put _ (some 46) _=_;simp only [Act.put,lA,lZ,lS,iw,jw];rfl) ?_
     refine pS 6 47 z42q7 HT_ rfl rfl (by kernel_rfl) (by rfl) (by intro w';go_simp;with_reducible rfl) (by simp only [Act.put,lA,lZ,lS,iw,jw];rfl) ?_
     refine last_ (i:=7) (N:=none) z42q8 rfl rfl (one_of HT_.out (by kernel_rfl)) (by decide) (fun K hK=>?_)
     refine skip_ (w1:=?_) (by rfl) rfl ?_ ?_
     rotate_left;(go_simp;rfl)
     refine hK.out _ _ ?_
     clear hK K
     refine done_ (done_of HT_.out (by kernel_rfl)) ?_
     have n0_:Aside0 (Kd.Q Kd.bool 4 (w56.setCell ⟨go52,(t161:Int).toNat,none⟩ (.int .i64 t163)) w.heap.size (fun k_=>some k_≠(u145001:Value).ownBlock) u145000 x145000_1):=⟨by (with_reducible repeat (first|apply Kd.Q_alloc|apply Kd.Q_drewN|apply Kd.Q_drew));exact qM (Kd.Q_far (p:=⟨go52,(t161:Int).toNat,none⟩) (Kd.Q_types Ba.out GG52.out (by decide)) (fun _ hk=>hk.2) (.int .i64 t163)) (fun _ hk=>hk.1)⟩
     have n1_:Aside0 (Kd.R Kd.bool 4 (w56.setCell ⟨go52,(t161:Int).toNat,none⟩ (.int .i64 t163)) w.heap.size (fun k_=>some k_≠(u145000:Value).ownBlock) u145001 x145001_1):=⟨by (with_reducible repeat (first|apply rA|apply rN|apply rD));exact rM (rF (p:=⟨go52,(t161:Int).toNat,none⟩) (rT Bb.out GG52.out (by decide)) (fun _ hk=>hk.2) (.int .i64 t163)) (fun _ hk=>hk.1)⟩
     have n2_:Aside0 (Kd.R (Kd.int .i64) 3 (w56.setCell ⟨go52,(t161:Int).toNat,none⟩ (.int .i64 t163)) w.heap.size (fun _=>True) (.slice (some ⟨go52,0,none⟩) x145002_1.length co52) y165):=⟨by (with_reducible repeat (first|apply rA|apply rN|apply rD));exact HQ57.out⟩
     have n3_:Aside0 ((w56.setCell ⟨go52,(t161:Int).toNat,none⟩ (.int .i64 t163)).heap[Bh]?=some (.cells #[.slice none 0 0,.slice none 0 0,.slice none 0 0] 26 (0,0))):=⟨by (with_reducible repeat (first|refine bN ?_ _|refine bD ?_|refine bA ?_ _));refine bE ?_ (by have h_:=rE Bc.out Be.out (by decide);intro e_;exact h_ (by rw [e_];rfl)) _;(with_reducible repeat (first|refine bN ?_ _|refine bD ?_|refine bA ?_ _));exact Be.out⟩
     have n4_:Aside0 ((w56.setCell ⟨go52,(t161:Int).toNat,none⟩ (.int .i64 t163)).heap[Bi]?=some (.cells #[u145000,u145001,.slice (some ⟨go52,0,none⟩) x145002_1.length co52] 26 (0,0))):=⟨by (with_reducible repeat (first|refine bN ?_ _|refine bD ?_|refine bA ?_ _));refine bE ?_ (by have h_:=rE Bc.out Bd.out (by decide);intro e_;exact h_ (by rw [e_];rfl)) _;(with_reducible repeat (first|refine bN ?_ _|refine bD ?_|refine bA ?_ _));exact Bd.out⟩
     have n5_:Aside0 (IsS60 w0 (w56.setCell ⟨go52,(t161:Int).toNat,none⟩ (.int .i64 t163)) g s0_0 t164):=⟨by repeat (first|(with_reducible first|exact HI0.out|apply IsS60.alloc|apply IsS60.drewN|apply IsS60.drew|apply IsS60.set_1|refine IsS60.far ?_ HN0_go52.out _|refine IsS60.far ?_ Bf.out _|refine IsS60.far ?_ Bg.out _)|exact HI0.out)⟩
     have n6_:Aside0 (KeepBut w (w56.setCell ⟨go52,(t161:Int).toNat,none⟩ (.int .i64 t163)) g none):=⟨by repeat (first|(with_reducible first|exact HK.out|apply KeepBut.set_|apply keep_drewN|apply keep_drew|apply keep_alloc|refine keep_far ?_ GB52.out _|refine keep_far ?_ Bj.out _|refine keep_far ?_ Bl.out _)|exact HK.out)⟩
     have n7_:Aside0 (Below w0.heap.size w0 (w56.setCell ⟨go52,(t161:Int).toNat,none⟩ (.int .i64 t163))):=⟨by repeat (first|(with_reducible first|exact HB.out|apply oA|apply pN|apply o1|refine bS ?_ (Nat.le_trans HL.out GB52.out)|refine bS ?_ (IsS60.ge HI0.out)|refine bS ?_ Bk.out|refine bS ?_ Bm.out)|exact HB.out)⟩
     (try clear Ba)
     (try clear Bb)
     (try clear Bc)
     (try clear Be)
     (try clear Bd)
     (try clear HI0)
     (try clear HK)
     (try clear HB)
     generalize (w56.setCell ⟨go52,(t161:Int).toNat,none⟩ (.int .i64 t163))=w58 at n0_ n1_ n2_ n3_ n4_ n5_ n6_ n7_ ⊢
     have Ba:=n0_
     have Bb:=n1_
     have Bc:=n2_
     have Be:=n3_
     have Bd:=n4_
     have HI0:=n5_
     have HK:=n6_
     have HB:=n7_
     clear n0_ n1_ n2_ n3_ n4_ n5_ n6_ n7_
     have Dy:=Br.out
     have Dz:=Bp.out
     have DA:=Bn.out
     have DB:=Bg.out
     have BN:=cz0 Bd.out
     have BO:=cz1 Bd.out
     have BP:=cz2 Bd.out
     have BQ:=bF Bd.out 0
     have BR:=bF Bd.out 1
     have BS:=bF Bd.out 2
     obtain ⟨Ao62,co62,eo62,_⟩:=Kd.Q_slice Ba.out
     subst eo62
     have DC:=Bo.out
     have DD:=Bf.out
     have BT:=cz0 Be.out
     have BU:=cz1 Be.out
     have BV:=cz2 Be.out
     have BW:=bF Be.out 0
     have BX:=bF Be.out 1
     have BY:=bF Be.out 2
     obtain ⟨Ao65,co65,eo65⟩:=rC Bb.out
     subst eo65
     try go_wp2
     refine bodyPost_ret (results_cell_row rfl _ _ Bh 26 #[.slice Ao62 x145000_1.length co62,.slice Ao65 x145001_1.length co65,.slice (some ⟨go52,0,none⟩) x145002_1.length co52] (0,0) _ rfl (by (with_reducible repeat (first|refine bN ?_ _|refine bD ?_|refine bA ?_ _));refine bT (cs:=#[.slice Ao62 x145000_1.length co62,.slice Ao65 x145001_1.length co65,.slice none 0 0]) ?_ 2 _ rfl;(with_reducible repeat (first|refine bN ?_ _|refine bD ?_|refine bA ?_ _));refine bT (cs:=#[.slice Ao62 x145000_1.length co62,.slice none 0 0,.slice none 0 0]) ?_ 1 _ rfl;(with_reducible repeat (first|refine bN ?_ _|refine bD ?_|refine bA ?_ _));refine bT (cs:=#[.slice none 0 0,.slice none 0 0,.slice none 0 0]) ?_ 0 _ rfl;(with_reducible repeat (first|refine bN ?_ _|refine bD ?_|refine bA ?_ _));exact Be.out) Try.underlying26 rfl (by kernel_rfl)) rfl ?_
     exact ⟨_,_,_,by first|rfl|(simp [errW_none,errW_some] <;> rfl)|(simp [*,errW_none,errW_some] <;> rfl),by (with_reducible repeat (first|apply Kd.Q_alloc|apply Kd.Q_drewN|apply Kd.Q_drew));exact qM (Kd.Q_far (p:=⟨Bh,2,none⟩) (Kd.Q_far (p:=⟨Bh,1,none⟩) (Kd.Q_far (p:=⟨Bh,0,none⟩) (Kd.Q_types Ba.out Be.out (by decide)) (fun _ hk=>hk.2) (.slice Ao62 x145000_1.length co62)) (fun _ hk=>hk.2) (.slice Ao65 x145001_1.length co65)) (fun _ hk=>hk.2) (.slice (some ⟨go52,0,none⟩) x145002_1.length co52)) (fun _ hk=>hk.1),by (with_reducible repeat (first|apply rA|apply rN|apply rD));exact rM (rF (p:=⟨Bh,2,none⟩) (rF (p:=⟨Bh,1,none⟩) (rF (p:=⟨Bh,0,none⟩) (rT Bb.out Be.out (by decide)) (fun _ hk=>hk.2) (.slice Ao62 x145000_1.length co62)) (fun _ hk=>hk.2) (.slice Ao65 x145001_1.length co65)) (fun _ hk=>hk.2) (.slice (some ⟨go52,0,none⟩) x145002_1.length co52)) (fun _ hk=>hk.1),by (with_reducible repeat (first|apply rA|apply rN|apply rD));exact rM (rF (p:=⟨Bh,2,none⟩) (rF (p:=⟨Bh,1,none⟩) (rF (p:=⟨Bh,0,none⟩) (rT Bc.out Be.out (by decide)) (fun _ hk=>hk.2) (.slice Ao62 x145000_1.length co62)) (fun _ hk=>hk.2) (.slice Ao65 x145001_1.length co65)) (fun _ hk=>hk.2) (.slice (some ⟨go52,0,none⟩) x145002_1.length co52)) (fun _ hk=>trivial),by repeat (first|(with_reducible first|exact HI0.out|apply IsS60.alloc|apply IsS60.drewN|apply IsS60.drew|apply IsS60.set_1|refine IsS60.far ?_ Bf.out _|refine IsS60.far ?_ Bg.out _)|exact HI0.out),by repeat (first|(with_reducible first|exact HB.out|apply oA|apply pN|apply o1|refine bS ?_ (IsS60.ge HI0.out)|refine bS ?_ Bk.out|refine bS ?_ Bm.out)|exact HB.out),by repeat (first|(with_reducible first|exact HK.out|apply KeepBut.set_|apply keep_drewN|apply keep_drew|apply keep_alloc|refine keep_far ?_ Bj.out _|refine keep_far ?_ Bl.out _)|exact HK.out)⟩
    rw [if_neg c47] at H
    have c47b0:(t159 == 0)=false:=beq_eq_false_iff_ne.mpr c47
    have c47b1:(t159 != 0)=true:=bne_iff_ne.mpr c47
    by_cases c66:t159=1
    rotate_left
    ·rw [if_neg c66] at H
     have c66b0:(t159 == 1)=false:=beq_eq_false_iff_ne.mpr c66
     have c66b1:(t159 != 1)=true:=bne_iff_ne.mpr c66
     by_cases c83:t159=2
     rotate_left
     ·rw [if_neg c83] at H
      have c83b0:(t159 == 2)=false:=beq_eq_false_iff_ne.mpr c83
      have c83b1:(t159 != 2)=true:=bne_iff_ne.mpr c83
      simp only [Option.some.injEq,Prod.mk.injEq] at H
      obtain ⟨rfl,rfl,rfl,rfl⟩:=H
      go_wp2_with (first|((with_reducible refine gC (f:=45) rfl ?_);refine goesL_ (some 38) rfl rfl Try.func45 (by kernel_rfl) rfl #[.pointer (some ⟨g,0,none⟩),.int .i64 24] rfl (by (try simp only [lM,lC,lN]);first|done|rfl|(simp only [lD,lT];rfl)) ?_;(with_reducible refine (spec_l6Rd_pick.calls k1 g s0_0 x1001_1 24 t159 t160 w0 _ ?side1 ?side2 A46.out).mono ?_);(case side1=>repeat (first|(with_reducible first|exact HI0.out|apply IsS60.alloc|apply IsS60.drewN|apply IsS60.drew|apply IsS60.set_1|refine IsS60.far ?_ Bf.out _|refine IsS60.far ?_ Bg.out _)|exact HI0.out));(case side2=>repeat (first|(with_reducible first|exact HB.out|apply oA|apply pN|apply o1|refine bS ?_ (IsS60.ge HI0.out)|refine bS ?_ Bk.out|refine bS ?_ Bm.out)|exact HB.out));rintro e w95 ⟨rfl,hi,hb,hk⟩;refine ⟨_,rfl,?_⟩;have n0_:=Am (qM (Kd.Q_keep (IsS60.apartQ (show IsS60 w0 _ g s0_0 x1001_1 from by repeat (first|(with_reducible first|exact HI0.out|apply IsS60.alloc|apply IsS60.drewN|apply IsS60.drew|apply IsS60.set_1|refine IsS60.far ?_ Bf.out _|refine IsS60.far ?_ Bg.out _)|exact HI0.out)) (qL Ba.out) (by decide)) hk (fun _ h=>h.2)) (fun _ h=>h.1));have n1_:=Am (rM (Kd.R_keep (IsS60.apart (show IsS60 w0 _ g s0_0 x1001_1 from by repeat (first|(with_reducible first|exact HI0.out|apply IsS60.alloc|apply IsS60.drewN|apply IsS60.drew|apply IsS60.set_1|refine IsS60.far ?_ Bf.out _|refine IsS60.far ?_ Bg.out _)|exact HI0.out)) (rL Bb.out) (by decide)) hk (fun _ h=>h.2)) (fun _ h=>h.1));have n2_:=Am (rM (Kd.R_keep (IsS60.apart (show IsS60 w0 _ g s0_0 x1001_1 from by repeat (first|(with_reducible first|exact HI0.out|apply IsS60.alloc|apply IsS60.drewN|apply IsS60.drew|apply IsS60.set_1|refine IsS60.far ?_ Bf.out _|refine IsS60.far ?_ Bg.out _)|exact HI0.out)) (rL Bc.out) (by decide)) hk (fun _ h=>h.2)) (fun _ h=>h.1));have n3_:=Am (KeepBut.blk hk (g':=Bh) (o:=.cells #[.slice none 0 0,.slice none 0 0,.slice none 0 0] 26 (0,0)) (bL Be.out) Bo.out (by simp));have n4_:=Am (KeepBut.blk hk (g':=Bi) (o:=.cells #[u145000,u145001,u145002] 26 (0,0)) (bL Bd.out) Bn.out (by simp));have n5_:=Am (KeepBut.trans (by repeat (first|(with_reducible first|exact HK.out|apply KeepBut.set_|apply keep_drewN|apply keep_drew|apply keep_alloc|refine keep_far ?_ Bj.out _|refine keep_far ?_ Bl.out _)|exact HK.out)) hk (.inl rfl));have n6_:=Am (hb);have n7_:=Am (hi);clear Ba Bb Bc Be Bd HK HB HI0;revert n0_ n1_ n2_ n3_ n4_ n5_ n6_ n7_;intro Ba Bb Bc Be Bd HK HB HI0;(try clear hb);(try clear hb2);(try clear hk);(try clear hi);have DQ:=Br.out;have DR:=Bp.out;have DS:=Bn.out;have DT:=Bg.out;have Dq:=cz0 Bd.out;have Dr:=cz1 Bd.out;have Ds:=cz2 Bd.out;have Dt:=bF Bd.out 0;have Du:=bF Bd.out 1;have Dv:=bF Bd.out 2;obtain ⟨Ao99,co99,eo99,_⟩:=Kd.Q_slice Ba.out;subst eo99;have Dw:=Bo.out;have Dx:=Bf.out;have BH:=cz0 Be.out;have BI:=cz1 Be.out;have BJ:=cz2 Be.out;have BK:=bF Be.out 0;have BL:=bF Be.out 1;have BM:=bF Be.out 2;obtain ⟨Ao102,co102,eo102⟩:=rC Bb.out;subst eo102;obtain ⟨Ao103,co103,eo103⟩:=rC Bc.out;subst eo103))
      refine bodyPost_ret (results_cell_row rfl _ _ Bh 26 #[.slice Ao99 x145000_1.length co99,.slice Ao102 x145001_1.length co102,.slice Ao103 x145002_1.length co103] (0,0) _ rfl (by (with_reducible repeat (first|refine bN ?_ _|refine bD ?_|refine bA ?_ _));refine bT (cs:=#[.slice Ao99 x145000_1.length co99,.slice Ao102 x145001_1.length co102,.slice none 0 0]) ?_ 2 _ rfl;(with_reducible repeat (first|refine bN ?_ _|refine bD ?_|refine bA ?_ _));refine bT (cs:=#[.slice Ao99 x145000_1.length co99,.slice none 0 0,.slice none 0 0]) ?_ 1 _ rfl;(with_reducible repeat (first|refine bN ?_ _|refine bD ?_|refine bA ?_ _));refine bT (cs:=#[.slice none 0 0,.slice none 0 0,.slice none 0 0]) ?_ 0 _ rfl;(with_reducible repeat (first|refine bN ?_ _|refine bD ?_|refine bA ?_ _));exact Be.out) Try.underlying26 rfl (by kernel_rfl)) rfl ?_
      exact ⟨_,_,_,by first|rfl|(simp [errW_none,errW_some] <;> rfl)|(simp [*,errW_none,errW_some] <;> rfl),by (with_reducible repeat (first|apply Kd.Q_alloc|apply Kd.Q_drewN|apply Kd.Q_drew));exact qM (Kd.Q_far (p:=⟨Bh,2,none⟩) (Kd.Q_far (p:=⟨Bh,1,none⟩) (Kd.Q_far (p:=⟨Bh,0,none⟩) (Kd.Q_types Ba.out Be.out (by decide)) (fun _ hk=>hk.2) (.slice Ao99 x145000_1.length co99)) (fun _ hk=>hk.2) (.slice Ao102 x145001_1.length co102)) (fun _ hk=>hk.2) (.slice Ao103 x145002_1.length co103)) (fun _ hk=>hk.1),by (with_reducible repeat (first|apply rA|apply rN|apply rD));exact rM (rF (p:=⟨Bh,2,none⟩) (rF (p:=⟨Bh,1,none⟩) (rF (p:=⟨Bh,0,none⟩) (rT Bb.out Be.out (by decide)) (fun _ hk=>hk.2) (.slice Ao99 x145000_1.length co99)) (fun _ hk=>hk.2) (.slice Ao102 x145001_1.length co102)) (fun _ hk=>hk.2) (.slice Ao103 x145002_1.length co103)) (fun _ hk=>hk.1),by (with_reducible repeat (first|apply rA|apply rN|apply rD));exact rM (rF (p:=⟨Bh,2,none⟩) (rF (p:=⟨Bh,1,none⟩) (rF (p:=⟨Bh,0,none⟩) (rT Bc.out Be.out (by decide)) (fun _ hk=>hk.2) (.slice Ao99 x145000_1.length co99)) (fun _ hk=>hk.2) (.slice Ao102 x145001_1.length co102)) (fun _ hk=>hk.2) (.slice Ao103 x145002_1.length co103)) (fun _ hk=>trivial),by repeat (first|(with_reducible first|exact HI0.out|apply IsS60.alloc|apply IsS60.drewN|apply IsS60.drew|apply IsS60.set_1|refine IsS60.far ?_ Bf.out _|refine IsS60.far ?_ Bg.out _)|exact HI0.out),by repeat (first|(with_reducible first|exact HB.out|apply oA|apply pN|apply o1|refine bS ?_ (IsS60.ge HI0.out)|refine bS ?_ Bk.out|refine bS ?_ Bm.out)|exact HB.out),by repeat (first|(with_reducible first|exact HK.out|apply KeepBut.set_|apply keep_drewN|apply keep_drew|apply keep_alloc|refine keep_far ?_ Bj.out _|refine keep_far ?_ Bl.out _)|exact HK.out)⟩

     rw [if_pos c83] at H
     have c83b0:(t159 == 2)=true:=beq_iff_eq.mpr c83
     have c83b1:(t159 != 2)=false:=bne_eq_false_iff_eq.mpr c83
     clear c83
     by_cases c84:1≤(x145000_1.length:Int)
     rotate_left
     ·rw [if_neg c84] at H
      exact absurd H (by simp)
     rw [if_pos c84] at H
     have c84b0:=eq_true c84
     have c84b1:decide (1≤(x145000_1.length:Int))=true:=dT c84
     clear c84
     obtain ⟨y169,hy169⟩:∃ y_:List Bool,y_=(x145000_1.drop (1:Int).toNat):=⟨_,rfl⟩
     replace H:(some (y169,x145001_1,x145002_1,t160))=some (r1,r2,r3,r4):=by first|(rw [hy169];with_reducible exact H)|(have H2_:=(Option.bind_some _ _).symm.trans H;rw [hy169];with_reducible exact H2_)|(have H2_:=(Option.bind_some _ _).symm.trans H;with_reducible exact H2_)|with_reducible exact H|(rw [hy169];exact H)|exact H
     have Ny169:=Am hy169
     clear hy169
     simp only [Option.some.injEq,Prod.mk.injEq] at H
     obtain ⟨rfl,rfl,rfl,rfl⟩:=H
     go_wp2_with (first|((with_reducible refine gC (f:=45) rfl ?_);refine goesL_ (some 38) rfl rfl Try.func45 (by kernel_rfl) rfl #[.pointer (some ⟨g,0,none⟩),.int .i64 24] rfl (by (try simp only [lM,lC,lN]);first|done|rfl|(simp only [lD,lT];rfl)) ?_;(with_reducible refine (spec_l6Rd_pick.calls k1 g s0_0 x1001_1 24 t159 t160 w0 _ ?side1 ?side2 A46.out).mono ?_);(case side1=>repeat (first|(with_reducible first|exact HI0.out|apply IsS60.alloc|apply IsS60.drewN|apply IsS60.drew|apply IsS60.set_1|refine IsS60.far ?_ Bf.out _|refine IsS60.far ?_ Bg.out _)|exact HI0.out));(case side2=>repeat (first|(with_reducible first|exact HB.out|apply oA|apply pN|apply o1|refine bS ?_ (IsS60.ge HI0.out)|refine bS ?_ Bk.out|refine bS ?_ Bm.out)|exact HB.out));rintro e w85 ⟨rfl,hi,hb,hk⟩;refine ⟨_,rfl,?_⟩;have n0_:=Am (qM (Kd.Q_keep (IsS60.apartQ (show IsS60 w0 _ g s0_0 x1001_1 from by repeat (first|(with_reducible first|exact HI0.out|apply IsS60.alloc|apply IsS60.drewN|apply IsS60.drew|apply IsS60.set_1|refine IsS60.far ?_ Bf.out _|refine IsS60.far ?_ Bg.out _)|exact HI0.out)) (qL Ba.out) (by decide)) hk (fun _ h=>h.2)) (fun _ h=>h.1));have n1_:=Am (rM (Kd.R_keep (IsS60.apart (show IsS60 w0 _ g s0_0 x1001_1 from by repeat (first|(with_reducible first|exact HI0.out|apply IsS60.alloc|apply IsS60.drewN|apply IsS60.drew|apply IsS60.set_1|refine IsS60.far ?_ Bf.out _|refine IsS60.far ?_ Bg.out _)|exact HI0.out)) (rL Bb.out) (by decide)) hk (fun _ h=>h.2)) (fun _ h=>h.1));have n2_:=Am (rM (Kd.R_keep (IsS60.apart (show IsS60 w0 _ g s0_0 x1001_1 from by repeat (first|(with_reducible first|exact HI0.out|apply IsS60.alloc|apply IsS60.drewN|apply IsS60.drew|apply IsS60.set_1|refine IsS60.far ?_ Bf.out _|refine IsS60.far ?_ Bg.out _)|exact HI0.out)) (rL Bc.out) (by decide)) hk (fun _ h=>h.2)) (fun _ h=>h.1));have n3_:=Am (KeepBut.blk hk (g':=Bh) (o:=.cells #[.slice none 0 0,.slice none 0 0,.slice none 0 0] 26 (0,0)) (bL Be.out) Bo.out (by simp));have n4_:=Am (KeepBut.blk hk (g':=Bi) (o:=.cells #[u145000,u145001,u145002] 26 (0,0)) (bL Bd.out) Bn.out (by simp));have n5_:=Am (KeepBut.trans (by repeat (first|(with_reducible first|exact HK.out|apply KeepBut.set_|apply keep_drewN|apply keep_drew|apply keep_alloc|refine keep_far ?_ Bj.out _|refine keep_far ?_ Bl.out _)|exact HK.out)) hk (.inl rfl));have n6_:=Am (hb);have n7_:=Am (hi);clear Ba Bb Bc Be Bd HK HB HI0;revert n0_ n1_ n2_ n3_ n4_ n5_ n6_ n7_;intro Ba Bb Bc Be Bd HK HB HI0;(try clear hb);(try clear hb2);(try clear hk);(try clear hi);have DK:=Br.out;have DL:=Bp.out;have DM:=Bn.out;have DN:=Bg.out;have De:=cz0 Bd.out;have Df:=cz1 Bd.out;have Dg:=cz2 Bd.out;have Dh:=bF Bd.out 0;have Di:=bF Bd.out 1;have Dj:=bF Bd.out 2;obtain ⟨Ao89,co89,eo89,_⟩:=Kd.Q_slice Ba.out;subst eo89;have q90:(1:Int)≤((x145000_1.length:Int):Int):=oE (by first|(with_reducible assumption)|assumption);obtain ⟨i090,hi090,_,hsz90,_⟩:=info_parts info4;have hcut90:=cut_from (P:=Try.prog) 23 4 .i64 Try.underlying23 hi090 1 hsz90 Ao89 x145000_1.length co89 1 (by omega) q90;have hr90:=Kd.Q_drop (k:=(1:Int).toNat) Ba.out (by omega);obtain ⟨A90,hA90⟩:∃ A1,A1=(if co89=(1:Int).toNat then Ao89 else (Ao89:Option Addr).map (·.add ((1:Int).toNat * 1))):=⟨_,rfl⟩;obtain ⟨c90,hc90⟩:∃ c1,c1=co89 - (1:Int).toNat:=⟨_,rfl⟩;have hy90:y169.length=x145000_1.length - (1:Int).toNat:=(by rw [Ny169.out,lD]);rw [← Ny169.out] at hr90;rw [← hy90,← hA90,← hc90] at hcut90;replace hr90:Kd.Q Kd.bool 4 w85 w.heap.size (fun k_=>some k_≠(u145001:Value).ownBlock) (.slice A90 y169.length c90) y169:=(by rw [hA90,hc90,hy90];exact hr90);have HE90:Aside0 ((Value.slice A90 y169.length c90).ownBlock=(.slice Ao89 x145000_1.length co89:Value).ownBlock):=⟨by rw [hA90];split <;> (cases (Ao89:Option Addr) <;> rfl)⟩;clear hy90 hi090 hsz90 Ba hA90 hc90;have BG:=Am hr90;clear hr90;replace q90:=eq_true q90;have n_:=Am (rM (ok':=fun k_=>some k_≠(.slice A90 y169.length c90:Value).ownBlock) Bb.out (fun k_ hk=>(by rw [HE90.out];exact hk)));clear Bb;have Bb:=n_;clear n_;have DO:=Bo.out;have DP:=Bf.out;have Dk:=cz0 Be.out;have Dl:=cz1 Be.out;have Dm:=cz2 Be.out;have Dn:=bF Be.out 0;have Do:=bF Be.out 1;have Dp:=bF Be.out 2;obtain ⟨Ao93,co93,eo93⟩:=rC Bb.out;subst eo93;obtain ⟨Ao94,co94,eo94⟩:=rC Bc.out;subst eo94))
     refine bodyPost_ret (results_cell_row rfl _ _ Bh 26 #[.slice A90 y169.length c90,.slice Ao93 x145001_1.length co93,.slice Ao94 x145002_1.length co94] (0,0) _ rfl (by (with_reducible repeat (first|refine bN ?_ _|refine bD ?_|refine bA ?_ _));refine bT (cs:=#[.slice A90 y169.length c90,.slice Ao93 x145001_1.length co93,.slice none 0 0]) ?_ 2 _ rfl;(with_reducible repeat (first|refine bN ?_ _|refine bD ?_|refine bA ?_ _));refine bT (cs:=#[.slice A90 y169.length c90,.slice none 0 0,.slice none 0 0]) ?_ 1 _ rfl;(with_reducible repeat (first|refine bN ?_ _|refine bD ?_|refine bA ?_ _));refine bT (cs:=#[.slice none 0 0,.slice none 0 0,.slice none 0 0]) ?_ 0 _ rfl;(with_reducible repeat (first|refine bN ?_ _|refine bD ?_|refine bA ?_ _|refine bE ?_ Bp.out _));exact Be.out) Try.underlying26 rfl (by kernel_rfl)) rfl ?_
     exact ⟨_,_,_,by first|rfl|(simp [errW_none,errW_some] <;> rfl)|(simp [*,errW_none,errW_some] <;> rfl),by (with_reducible repeat (first|apply Kd.Q_alloc|apply Kd.Q_drewN|apply Kd.Q_drew));exact qM (Kd.Q_far (p:=⟨Bh,2,none⟩) (Kd.Q_far (p:=⟨Bh,1,none⟩) (Kd.Q_far (p:=⟨Bh,0,none⟩) (Kd.Q_far (p:=⟨Bi,0,none⟩) (Kd.Q_types (Kd.Q_types BG.out Bd.out (by decide)) Be.out (by decide)) (fun _ hk=>hk.1.2) (.slice A90 y169.length c90)) (fun _ hk=>hk.2) (.slice A90 y169.length c90)) (fun _ hk=>hk.2) (.slice Ao93 x145001_1.length co93)) (fun _ hk=>hk.2) (.slice Ao94 x145002_1.length co94)) (fun _ hk=>hk.1.1),by (with_reducible repeat (first|apply rA|apply rN|apply rD));exact rM (rF (p:=⟨Bh,2,none⟩) (rF (p:=⟨Bh,1,none⟩) (rF (p:=⟨Bh,0,none⟩) (rF (p:=⟨Bi,0,none⟩) (rT (rT Bb.out Bd.out (by decide)) Be.out (by decide)) (fun _ hk=>hk.1.2) (.slice A90 y169.length c90)) (fun _ hk=>hk.2) (.slice A90 y169.length c90)) (fun _ hk=>hk.2) (.slice Ao93 x145001_1.length co93)) (fun _ hk=>hk.2) (.slice Ao94 x145002_1.length co94)) (fun _ hk=>hk.1.1),by (with_reducible repeat (first|apply rA|apply rN|apply rD));exact rM (rF (p:=⟨Bh,2,none⟩) (rF (p:=⟨Bh,1,none⟩) (rF (p:=⟨Bh,0,none⟩) (rF (p:=⟨Bi,0,none⟩) (rT (rT Bc.out Bd.out (by decide)) Be.out (by decide)) (fun _ hk=>hk.1.2) (.slice A90 y169.length c90)) (fun _ hk=>hk.2) (.slice A90 y169.length c90)) (fun _ hk=>hk.2) (.slice Ao93 x145001_1.length co93)) (fun _ hk=>hk.2) (.slice Ao94 x145002_1.length co94)) (fun _ hk=>trivial),by repeat (first|(with_reducible first|exact HI0.out|apply IsS60.alloc|apply IsS60.drewN|apply IsS60.drew|apply IsS60.set_1|refine IsS60.far ?_ Bf.out _|refine IsS60.far ?_ Bg.out _)|exact HI0.out),by repeat (first|(with_reducible first|exact HB.out|apply oA|apply pN|apply o1|refine bS ?_ (IsS60.ge HI0.out)|refine bS ?_ Bk.out|refine bS ?_ Bm.out)|exact HB.out),by repeat (first|(with_reducible first|exact HK.out|apply KeepBut.set_|apply keep_drewN|apply keep_drew|apply keep_alloc|refine keep_far ?_ Bj.out _|refine keep_far ?_ Bl.out _)|exact HK.out)⟩
    rw [if_pos c66] at H
    have c66b0:(t159 == 1)=true:=beq_iff_eq.mpr c66
    have c66b1:(t159 != 1)=false:=bne_eq_false_iff_eq.mpr c66
    clear c66
    replace H:=oC H
    obtain ⟨⟨t166,t167⟩,A670,H⟩:=H
    replace H:(if 0≤t166 then (if t166<(x145001_1.length:Int) then (some (x145000_1,(x145001_1.set (t166:Int).toNat true),x145002_1,t167)) else (none)) else (none))=some (r1,r2,r3,r4):=H
    have A67:=Am A670
    clear A670
    by_cases c68:0≤t166
    rotate_left
    ·rw [if_neg c68] at H
     exact absurd H (by simp)
    rw [if_pos c68] at H
    have c68b0:decide (0≤t166)=true:=dT c68
    clear c68
    by_cases c69:t166<(x145001_1.length:Int)
    rotate_left
    ·rw [if_neg c69] at H
     exact absurd H (by simp)
    rw [if_pos c69] at H
    have c69b0:decide (t166<(x145001_1.length:Int))=true:=dT c69
    clear c69
    obtain ⟨y168,hy168⟩:∃ y_:List Bool,y_=(x145001_1.set (t166:Int).toNat true):=⟨_,rfl⟩
    replace H:(some (x145000_1,y168,x145002_1,t167))=some (r1,r2,r3,r4):=by first|(rw [hy168];with_reducible exact H)|(have H2_:=(Option.bind_some _ _).symm.trans H;rw [hy168];with_reducible exact H2_)|(have H2_:=(Option.bind_some _ _).symm.trans H;with_reducible exact H2_)|with_reducible exact H|(rw [hy168];exact H)|exact H
    have Ny168:=Am hy168
    clear hy168
    simp only [Option.some.injEq,Prod.mk.injEq] at H
    obtain ⟨rfl,rfl,rfl,rfl⟩:=H
    try go_wp2_with (first|((with_reducible refine gC (f:=45) rfl ?_);refine goesL_ (some 38) rfl rfl Try.func45 (by kernel_rfl) rfl #[.pointer (some ⟨g,0,none⟩),.int .i64 24] rfl (by (try simp only [lM,lC,lN]);first|done|rfl|(simp only [lD,lT];rfl)) ?_;(with_reducible refine (spec_l6Rd_pick.calls k1 g s0_0 x1001_1 24 t159 t160 w0 _ ?side1 ?side2 A46.out).mono ?_);(case side1=>repeat (first|(with_reducible first|exact HI0.out|apply IsS60.alloc|apply IsS60.drewN|apply IsS60.drew|apply IsS60.set_1|refine IsS60.far ?_ Bf.out _|refine IsS60.far ?_ Bg.out _)|exact HI0.out));(case side2=>repeat (first|(with_reducible first|exact HB.out|apply oA|apply pN|apply o1|refine bS ?_ (IsS60.ge HI0.out)|refine bS ?_ Bk.out|refine bS ?_ Bm.out)|exact HB.out));rintro e w71 ⟨rfl,hi,hb,hk⟩;refine ⟨_,rfl,?_⟩;have n0_:=Am (qM (Kd.Q_keep (IsS60.apartQ (show IsS60 w0 _ g s0_0 x1001_1 from by repeat (first|(with_reducible first|exact HI0.out|apply IsS60.alloc|apply IsS60.drewN|apply IsS60.drew|apply IsS60.set_1|refine IsS60.far ?_ Bf.out _|refine IsS60.far ?_ Bg.out _)|exact HI0.out)) (qL Ba.out) (by decide)) hk (fun _ h=>h.2)) (fun _ h=>h.1));have n1_:=Am (rM (Kd.R_keep (IsS60.apart (show IsS60 w0 _ g s0_0 x1001_1 from by repeat (first|(with_reducible first|exact HI0.out|apply IsS60.alloc|apply IsS60.drewN|apply IsS60.drew|apply IsS60.set_1|refine IsS60.far ?_ Bf.out _|refine IsS60.far ?_ Bg.out _)|exact HI0.out)) (rL Bb.out) (by decide)) hk (fun _ h=>h.2)) (fun _ h=>h.1));have n2_:=Am (rM (Kd.R_keep (IsS60.apart (show IsS60 w0 _ g s0_0 x1001_1 from by repeat (first|(with_reducible first|exact HI0.out|apply IsS60.alloc|apply IsS60.drewN|apply IsS60.drew|apply IsS60.set_1|refine IsS60.far ?_ Bf.out _|refine IsS60.far ?_ Bg.out _)|exact HI0.out)) (rL Bc.out) (by decide)) hk (fun _ h=>h.2)) (fun _ h=>h.1));have n3_:=Am (KeepBut.blk hk (g':=Bh) (o:=.cells #[.slice none 0 0,.slice none 0 0,.slice none 0 0] 26 (0,0)) (bL Be.out) Bo.out (by simp));have n4_:=Am (KeepBut.blk hk (g':=Bi) (o:=.cells #[u145000,u145001,u145002] 26 (0,0)) (bL Bd.out) Bn.out (by simp));have n5_:=Am (KeepBut.trans (by repeat (first|(with_reducible first|exact HK.out|apply KeepBut.set_|apply keep_drewN|apply keep_drew|apply keep_alloc|refine keep_far ?_ Bj.out _|refine keep_far ?_ Bl.out _)|exact HK.out)) hk (.inl rfl));have n6_:=Am (hb);have n7_:=Am (hi);clear Ba Bb Bc Be Bd HK HB HI0;revert n0_ n1_ n2_ n3_ n4_ n5_ n6_ n7_;intro Ba Bb Bc Be Bd HK HB HI0;(try clear hb);(try clear hb2);(try clear hk);(try clear hi)))
    have n0_:=Am (Kd.Q_drew Ba.out)
    have n1_:=Am (rD Bb.out)
    have n2_:=Am (rD Bc.out)
    have n3_:=Am (bD Be.out)
    have n4_:=Am (bD Bd.out)
    have n5_:=Am (IsS60.drew HI0.out)
    have n6_:=Am (keep_drew HK.out)
    have n7_:=Am (o1 HB.out)
    clear Ba
    clear Bb
    clear Bc
    clear Be
    clear Bd
    clear HI0
    clear HK
    clear HB
    have Ba:=n0_
    have Bb:=n1_
    have Bc:=n2_
    have Be:=n3_
    have Bd:=n4_
    have HI0:=n5_
    have HK:=n6_
    have HB:=n7_
    clear n0_ n1_ n2_ n3_ n4_ n5_ n6_ n7_
    refine start_ (n:=6) (S:=fun w'=>w'.cell? ⟨Bi,0,none⟩=some (u145000)∧w'.cell? ⟨Bi,1,none⟩=some (u145001)∧w'.cell? ⟨Bi,2,none⟩=some (u145002)) (ds:=[5]) #[false,false,false,false,false,false] (by kernel_rfl) rfl rfl ⟨(bC Bd.out 0).trans rfl,(bC Bd.out 1).trans rfl,(bC Bd.out 2).trans rfl⟩ (fun hHeld=>?_)
    generalize w71.drew=w72 at Ba Bb Bc Be Bd HI0 HK HB hHeld ⊢
    refine pure_ (i:=0) (N:=some 50) (v:=?_) (a':=?_) #[true,false,false,false,false,false] rfl rfl (by kernel_rfl) (fun _ _ _ h=>h) (Or.inl ⟨by rfl,?_⟩) ?_ ?_
    rotate_left;(intro w';go_simp;with_reducible rfl)
    rotate_left;(simp only [Act.put,lA,lZ,lS,iw,jw];rfl)
    refine pure_ (i:=2) (N:=some 52) (v:=?_) (a':=?_) #[true,false,true,false,false,false] rfl rfl (by kernel_rfl) (fun _ _ _ h=>h) (Or.inl ⟨by rfl,?_⟩) ?_ ?_
    rotate_left;(intro w';go_simp;with_reducible rfl)
    rotate_left;(simp only [Act.put,lA,lZ,lS,iw,jw];rfl)
    refine take_ (i:=1) (N:=some 51) (v:=?_) (a':=?_) #[true,true,true,false,false,false] rfl rfl (by kernel_rfl) (fun _ _ _ h=>h) (Or.inl ⟨by rfl,?_⟩) hHeld ?_ ?_
    rotate_left;(rintro w' ⟨s0,s1,s2⟩;go_simp;with_reducible rfl)
    rotate_left;(simp only [Act.put,lA,lZ,lS,iw,jw];rfl)
    refine one_ (i:=3) (N:=some 53) #[true,true,true,true,false,false] rfl rfl (by kernel_rfl) (by decide) (fun K hK=>?_)
    refine goes_ Try.func45 (by kernel_rfl) rfl #[.pointer (some ⟨g,0,none⟩),.int .i64 2] (by rfl) rfl rfl (by (try simp only [lM,lC,lN]);first|done|rfl|(simp only [lD,lT];rfl)) ?_
    with_reducible refine (spec_l6Rd_pick.calls k1 g s0_0 t160 2 t166 t167 w0 _ ?side1 ?side2 A67.out).mono ?_
    (case side1=>repeat (first|(with_reducible first|exact HI0.out|apply IsS60.alloc|apply IsS60.drewN|apply IsS60.drew|apply IsS60.set_1|refine IsS60.far ?_ Bf.out _|refine IsS60.far ?_ Bg.out _)|exact HI0.out))
    (case side2=>repeat (first|(with_reducible first|exact HB.out|apply oA|apply pN|apply o1|refine bS ?_ (IsS60.ge HI0.out)|refine bS ?_ Bk.out|refine bS ?_ Bm.out)|exact HB.out))
    rintro e w73 ⟨rfl,hi,hb,hk⟩
    refine ⟨_,rfl,?_⟩
    have n0_:=Am (qM (Kd.Q_keep (IsS60.apartQ (show IsS60 w0 _ g s0_0 t160 from by repeat (first|(with_reducible first|exact HI0.out|apply IsS60.alloc|apply IsS60.drewN|apply IsS60.drew|apply IsS60.set_1|refine IsS60.far ?_ Bf.out _|refine IsS60.far ?_ Bg.out _)|exact HI0.out)) (qL Ba.out) (by decide)) hk (fun _ h=>h.2)) (fun _ h=>h.1))
    have n1_:=Am (rM (Kd.R_keep (IsS60.apart (show IsS60 w0 _ g s0_0 t160 from by repeat (first|(with_reducible first|exact HI0.out|apply IsS60.alloc|apply IsS60.drewN|apply IsS60.drew|apply IsS60.set_1|refine IsS60.far ?_ Bf.out _|refine IsS60.far ?_ Bg.out _)|exact HI0.out)) (rL Bb.out) (by decide)) hk (fun _ h=>h.2)) (fun _ h=>h.1))
    have n2_:=Am (rM (Kd.R_keep (IsS60.apart (show IsS60 w0 _ g s0_0 t160 from by repeat (first|(with_reducible first|exact HI0.out|apply IsS60.alloc|apply IsS60.drewN|apply IsS60.drew|apply IsS60.set_1|refine IsS60.far ?_ Bf.out _|refine IsS60.far ?_ Bg.out _)|exact HI0.out)) (rL Bc.out) (by decide)) hk (fun _ h=>h.2)) (fun _ h=>h.1))
    have n3_:=Am (KeepBut.blk hk (g':=Bh) (o:=.cells #[.slice none 0 0,.slice none 0 0,.slice none 0 0] 26 (0,0)) (bL Be.out) Bo.out (by simp))
    have n4_:=Am (KeepBut.blk hk (g':=Bi) (o:=.cells #[u145000,u145001,u145002] 26 (0,0)) (bL Bd.out) Bn.out (by simp))
    have n5_:=Am (KeepBut.trans (by repeat (first|(with_reducible first|exact HK.out|apply KeepBut.set_|apply keep_drewN|apply keep_drew|apply keep_alloc|refine keep_far ?_ Bj.out _|refine keep_far ?_ Bl.out _)|exact HK.out)) hk (.inl rfl))
    have n6_:=Am (hb)
    have n7_:=Am (hi)
    clear Ba
    clear Bb
    clear Bc
    clear Be
    clear Bd
    clear HK
    clear HB
    clear HI0
    have Ba:=n0_
    have Bb:=n1_
    have Bc:=n2_
    have Be:=n3_
    have Bd:=n4_
    have HK:=n5_
    have HB:=n6_
    have HI0:=n7_
    clear n0_ n1_ n2_ n3_ n4_ n5_ n6_ n7_
    (try clear hb)
    (try clear hb2)
    (try clear hk)
    (try clear hi)
    have p70:0≤(t166:Int):=oE (by first|(with_reducible assumption)|assumption)
    have q70:(t166:Int)<((x145001_1.length:Int):Int):=oE (by first|(with_reducible assumption)|assumption)
    obtain ⟨go70,co70,eo70,BF,gl70,cl70,HG70⟩:=Kd.R_form Bb.out (by omega)
    (first|cases eo70|(injection eo70 with ea_ en_ ec_;(first|subst ea_|(injection ea_ with ea_;subst ea_));subst ec_;clear en_))
    have GB70:=Am BF
    have GG70:=Am HG70
    clear BF gl70 HG70
    obtain ⟨hx70_0,hf70_0⟩:=Kd.R_celln false Bb.out (t166:Int) p70 q70
    replace p70:=eq_true p70
    replace q70:=eq_true q70
    have HN0_go70:=Am (show g≠go70 from by have h_:=IsS60.own_ne HI0.out Bb.out (by decide);intro e_;exact h_ (by rw [e_];rfl))
    have HP74:=Kd.R_putn Bb.out (t166:Int) true
    rw [← Ny168.out] at HP74
    have HQ74:=Am HP74
    clear HP74
    refine hK.out _ _ ⟨(bC Bd.out 0).trans rfl,(bC Bd.out 1).trans rfl,(bC Bd.out 2).trans rfl⟩ (fun hHeld=>?_)
    clear hK K
    refine norm_ (by show Act.put _ (some 53) _=_;simp only [Act.put,lA,lZ,lS,iw,jw];rfl) ?_
    refine pure_ (i:=4) (N:=some 54) (v:=?_) (a':=?_) #[true,true,true,true,true,false] rfl rfl (by kernel_rfl) (fun _ _ _ h=>h) (Or.inl ⟨by rfl,?_⟩) ?_ ?_
    rotate_left;(intro w';go_simp;with_reducible rfl)
    rotate_left;(simp only [Act.put,lA,lZ,lS,iw,jw];rfl)
    refine last_ (i:=5) (N:=none) #[true,true,true,true,true,true] rfl rfl (by kernel_rfl) (by decide) (fun K hK=>?_)
    refine skip_ (w1:=?_) (by rfl) rfl ?_ ?_
    rotate_left;(go_simp;rfl)
    refine hK.out _ _ ?_
    clear hK K
    refine done_ (by kernel_rfl) ?_
    have n0_:Aside0 (Kd.Q Kd.bool 4 (w73.setCell ⟨go70,(t166:Int).toNat,none⟩ (.bool true)) w.heap.size (fun k_=>some k_≠(.slice (some ⟨go70,0,none⟩) x145001_1.length co70:Value).ownBlock) u145000 x145000_1):=⟨by (with_reducible repeat (first|apply Kd.Q_alloc|apply Kd.Q_drewN|apply Kd.Q_drew));exact qM (Kd.Q_far (p:=⟨go70,(t166:Int).toNat,none⟩) (qM Ba.out (fun k_ hk=>(⟨hk,fun e_=>hk (by rw [e_];rfl)⟩:_∧k_≠go70))) (fun _ hk=>hk.2) (.bool true)) (fun _ hk=>hk.1)⟩
    have n1_:Aside0 (Kd.R Kd.bool 4 (w73.setCell ⟨go70,(t166:Int).toNat,none⟩ (.bool true)) w.heap.size (fun k_=>some k_≠(u145000:Value).ownBlock) (.slice (some ⟨go70,0,none⟩) x145001_1.length co70) y168):=⟨by (with_reducible repeat (first|apply rA|apply rN|apply rD));exact HQ74.out⟩
    have n2_:Aside0 (Kd.R (Kd.int .i64) 3 (w73.setCell ⟨go70,(t166:Int).toNat,none⟩ (.bool true)) w.heap.size (fun _=>True) u145002 x145002_1):=⟨by (with_reducible repeat (first|apply rA|apply rN|apply rD));exact rM (rF (p:=⟨go70,(t166:Int).toNat,none⟩) (rT Bc.out GG70.out (by decide)) (fun _ hk=>hk.2) (.bool true)) (fun _ hk=>trivial)⟩
    have n3_:Aside0 ((w73.setCell ⟨go70,(t166:Int).toNat,none⟩ (.bool true)).heap[Bh]?=some (.cells #[.slice none 0 0,.slice none 0 0,.slice none 0 0] 26 (0,0))):=⟨by (with_reducible repeat (first|refine bN ?_ _|refine bD ?_|refine bA ?_ _));refine bE ?_ (by have h_:=rE Bb.out Be.out (by decide);intro e_;exact h_ (by rw [e_];rfl)) _;(with_reducible repeat (first|refine bN ?_ _|refine bD ?_|refine bA ?_ _));exact Be.out⟩
    have n4_:Aside0 ((w73.setCell ⟨go70,(t166:Int).toNat,none⟩ (.bool true)).heap[Bi]?=some (.cells #[u145000,.slice (some ⟨go70,0,none⟩) x145001_1.length co70,u145002] 26 (0,0))):=⟨by (with_reducible repeat (first|refine bN ?_ _|refine bD ?_|refine bA ?_ _));refine bE ?_ (by have h_:=rE Bb.out Bd.out (by decide);intro e_;exact h_ (by rw [e_];rfl)) _;(with_reducible repeat (first|refine bN ?_ _|refine bD ?_|refine bA ?_ _));exact Bd.out⟩
    have n5_:Aside0 (IsS60 w0 (w73.setCell ⟨go70,(t166:Int).toNat,none⟩ (.bool true)) g s0_0 t167):=⟨by repeat (first|(with_reducible first|exact HI0.out|apply IsS60.alloc|apply IsS60.drewN|apply IsS60.drew|apply IsS60.set_1|refine IsS60.far ?_ HN0_go70.out _|refine IsS60.far ?_ Bf.out _|refine IsS60.far ?_ Bg.out _)|exact HI0.out)⟩
    have n6_:Aside0 (KeepBut w (w73.setCell ⟨go70,(t166:Int).toNat,none⟩ (.bool true)) g none):=⟨by repeat (first|(with_reducible first|exact HK.out|apply KeepBut.set_|apply keep_drewN|apply keep_drew|apply keep_alloc|refine keep_far ?_ GB70.out _|refine keep_far ?_ Bj.out _|refine keep_far ?_ Bl.out _)|exact HK.out)⟩
    have n7_:Aside0 (Below w0.heap.size w0 (w73.setCell ⟨go70,(t166:Int).toNat,none⟩ (.bool true))):=⟨by repeat (first|(with_reducible first|exact HB.out|apply oA|apply pN|apply o1|refine bS ?_ (Nat.le_trans HL.out GB70.out)|refine bS ?_ (IsS60.ge HI0.out)|refine bS ?_ Bk.out|refine bS ?_ Bm.out)|exact HB.out)⟩
    (try clear Ba)
    (try clear Bb)
    (try clear Bc)
    (try clear Be)
    (try clear Bd)
    (try clear HI0)
    (try clear HK)
    (try clear HB)
    generalize (w73.setCell ⟨go70,(t166:Int).toNat,none⟩ (.bool true))=w75 at n0_ n1_ n2_ n3_ n4_ n5_ n6_ n7_ ⊢
    have Ba:=n0_
    have Bb:=n1_
    have Bc:=n2_
    have Be:=n3_
    have Bd:=n4_
    have HI0:=n5_
    have HK:=n6_
    have HB:=n7_
    clear n0_ n1_ n2_ n3_ n4_ n5_ n6_ n7_
    have DE:=Br.out
    have DF:=Bp.out
    have DG:=Bn.out
    have DH:=Bg.out
    have BZ:=cz0 Bd.out
    have B0:=cz1 Bd.out
    have B1:=cz2 Bd.out
    have B2:=bF Bd.out 0
    have B3:=bF Bd.out 1
    have B4:=bF Bd.out 2
    obtain ⟨Ao79,co79,eo79,_⟩:=Kd.Q_slice Ba.out
    subst eo79
    have DI:=Bo.out
    have DJ:=Bf.out
    have B6:=cz0 Be.out
    have B9:=cz1 Be.out
    have Da:=cz2 Be.out
    have Db:=bF Be.out 0
    have Dc:=bF Be.out 1
    have Dd:=bF Be.out 2
    obtain ⟨Ao82,co82,eo82⟩:=rC Bc.out
    subst eo82
    try go_wp2
    refine bodyPost_ret (results_cell_row rfl _ _ Bh 26 #[.slice Ao79 x145000_1.length co79,.slice (some ⟨go70,0,none⟩) x145001_1.length co70,.slice Ao82 x145002_1.length co82] (0,0) _ rfl (by (with_reducible repeat (first|refine bN ?_ _|refine bD ?_|refine bA ?_ _));refine bT (cs:=#[.slice Ao79 x145000_1.length co79,.slice (some ⟨go70,0,none⟩) x145001_1.length co70,.slice none 0 0]) ?_ 2 _ rfl;(with_reducible repeat (first|refine bN ?_ _|refine bD ?_|refine bA ?_ _));refine bT (cs:=#[.slice Ao79 x145000_1.length co79,.slice none 0 0,.slice none 0 0]) ?_ 1 _ rfl;(with_reducible repeat (first|refine bN ?_ _|refine bD ?_|refine bA ?_ _));refine bT (cs:=#[.slice none 0 0,.slice none 0 0,.slice none 0 0]) ?_ 0 _ rfl;(with_reducible repeat (first|refine bN ?_ _|refine bD ?_|refine bA ?_ _));exact Be.out) Try.underlying26 rfl (by kernel_rfl)) rfl ?_
    exact ⟨_,_,_,by first|rfl|(simp [errW_none,errW_some] <;> rfl)|(simp [*,errW_none,errW_some] <;> rfl),by (with_reducible repeat (first|apply Kd.Q_alloc|apply Kd.Q_drewN|apply Kd.Q_drew));exact qM (Kd.Q_far (p:=⟨Bh,2,none⟩) (Kd.Q_far (p:=⟨Bh,1,none⟩) (Kd.Q_far (p:=⟨Bh,0,none⟩) (Kd.Q_types Ba.out Be.out (by decide)) (fun _ hk=>hk.2) (.slice Ao79 x145000_1.length co79)) (fun _ hk=>hk.2) (.slice (some ⟨go70,0,none⟩) x145001_1.length co70)) (fun _ hk=>hk.2) (.slice Ao82 x145002_1.length co82)) (fun _ hk=>hk.1),by (with_reducible repeat (first|apply rA|apply rN|apply rD));exact rM (rF (p:=⟨Bh,2,none⟩) (rF (p:=⟨Bh,1,none⟩) (rF (p:=⟨Bh,0,none⟩) (rT Bb.out Be.out (by decide)) (fun _ hk=>hk.2) (.slice Ao79 x145000_1.length co79)) (fun _ hk=>hk.2) (.slice (some ⟨go70,0,none⟩) x145001_1.length co70)) (fun _ hk=>hk.2) (.slice Ao82 x145002_1.length co82)) (fun _ hk=>hk.1),by (with_reducible repeat (first|apply rA|apply rN|apply rD));exact rM (rF (p:=⟨Bh,2,none⟩) (rF (p:=⟨Bh,1,none⟩) (rF (p:=⟨Bh,0,none⟩) (rT Bc.out Be.out (by decide)) (fun _ hk=>hk.2) (.slice Ao79 x145000_1.length co79)) (fun _ hk=>hk.2) (.slice (some ⟨go70,0,none⟩) x145001_1.length co70)) (fun _ hk=>hk.2) (.slice Ao82 x145002_1.length co82)) (fun _ hk=>trivial),by repeat (first|(with_reducible first|exact HI0.out|apply IsS60.alloc|apply IsS60.drewN|apply IsS60.drew|apply IsS60.set_1|refine IsS60.far ?_ Bf.out _|refine IsS60.far ?_ Bg.out _)|exact HI0.out),by repeat (first|(with_reducible first|exact HB.out|apply oA|apply pN|apply o1|refine bS ?_ (IsS60.ge HI0.out)|refine bS ?_ Bk.out|refine bS ?_ Bm.out)|exact HB.out),by repeat (first|(with_reducible first|exact HK.out|apply KeepBut.set_|apply keep_drewN|apply keep_drew|apply keep_alloc|refine keep_far ?_ Bj.out _|refine keep_far ?_ Bl.out _)|exact HK.out)⟩
   rw [if_pos c12] at H
   have c12b0:decide (x4_1<8)=true:=dT c12
   clear c12
   replace H:=oC H
   obtain ⟨⟨t145,t146⟩,A130,H⟩:=H
   replace H:(if 0≤x4_1 then (if x4_1<(x145000_1.length:Int) then ((some (x145000_1.set (x4_1:Int).toNat (t145 == 0):List Bool)).bind fun y147=>((spec_l10Fixed.f (wrap64 (x4_1 + 1))).bind fun t148=>(if t148=true then (spec_l92Sigs.l0 k1 (wrap64 (x4_1 + 1)) s0_0 t146 y147 x145001_1 x145002_1) else ((spec_l6Rd_pick.f k1 s0_0 t146 3).bind fun bt149=>(if x4_1<(x145001_1.length:Int) then ((some (([0,0,1,4]:List Int):List Int)).bind fun y152=>((spec_l6Rd_pick.f k1 s0_0 bt149.2 4).bind fun bt155=>(if 0≤bt155.1 then (if bt155.1<(y152.length:Int) then (if x4_1<(x145002_1.length:Int) then (spec_l92Sigs.l0 k1 (wrap64 (x4_1 + 1)) s0_0 bt155.2 y147 (x145001_1.set (x4_1:Int).toNat (bt149.1 == 0)) (x145002_1.set (x4_1:Int).toNat (rd y152 bt155.1))) else (none)) else (none)) else (none)))) else (none)))))) else (none)) else (none))=some (r1,r2,r3,r4):=H
   have A13:=Am A130
   clear A130
   by_cases c14:0≤x4_1
   rotate_left
   ·rw [if_neg c14] at H
    exact absurd H (by simp)
   rw [if_pos c14] at H
   have c14b0:decide (0≤x4_1)=true:=dT c14
   clear c14
   by_cases c15:x4_1<(x145000_1.length:Int)
   rotate_left
   ·rw [if_neg c15] at H
    exact absurd H (by simp)
   rw [if_pos c15] at H
   have c15b0:decide (x4_1<(x145000_1.length:Int))=true:=dT c15
   clear c15
   obtain ⟨y147,hy147⟩:∃ y_:List Bool,y_=(x145000_1.set (x4_1:Int).toNat (t145 == 0)):=⟨_,rfl⟩
   replace H:((spec_l10Fixed.f (wrap64 (x4_1 + 1))).bind fun t148=>(if t148=true then (spec_l92Sigs.l0 k1 (wrap64 (x4_1 + 1)) s0_0 t146 y147 x145001_1 x145002_1) else ((spec_l6Rd_pick.f k1 s0_0 t146 3).bind fun bt149=>(if x4_1<(x145001_1.length:Int) then ((some (([0,0,1,4]:List Int):List Int)).bind fun y152=>((spec_l6Rd_pick.f k1 s0_0 bt149.2 4).bind fun bt155=>(if 0≤bt155.1 then (if bt155.1<(y152.length:Int) then (if x4_1<(x145002_1.length:Int) then (spec_l92Sigs.l0 k1 (wrap64 (x4_1 + 1)) s0_0 bt155.2 y147 (x145001_1.set (x4_1:Int).toNat (bt149.1 == 0)) (x145002_1.set (x4_1:Int).toNat (rd y152 bt155.1))) else (none)) else (none)) else (none)))) else (none)))))=some (r1,r2,r3,r4):=by first|(rw [hy147];with_reducible exact H)|(have H2_:=(Option.bind_some _ _).symm.trans H;rw [hy147];with_reducible exact H2_)|(have H2_:=(Option.bind_some _ _).symm.trans H;with_reducible exact H2_)|with_reducible exact H|(rw [hy147];exact H)|exact H
   have Ny147:=Am hy147
   clear hy147
   replace H:=oC H
   obtain ⟨t148,A170,H⟩:=H
   replace H:(if t148=true then (spec_l92Sigs.l0 k1 (wrap64 (x4_1 + 1)) s0_0 t146 y147 x145001_1 x145002_1) else ((spec_l6Rd_pick.f k1 s0_0 t146 3).bind fun bt149=>(if x4_1<(x145001_1.length:Int) then ((some (([0,0,1,4]:List Int):List Int)).bind fun y152=>((spec_l6Rd_pick.f k1 s0_0 bt149.2 4).bind fun bt155=>(if 0≤bt155.1 then (if bt155.1<(y152.length:Int) then (if x4_1<(x145002_1.length:Int) then (spec_l92Sigs.l0 k1 (wrap64 (x4_1 + 1)) s0_0 bt155.2 y147 (x145001_1.set (x4_1:Int).toNat (bt149.1 == 0)) (x145002_1.set (x4_1:Int).toNat (rd y152 bt155.1))) else (none)) else (none)) else (none)))) else (none))))=some (r1,r2,r3,r4):=H
   have A17:=Am A170
   clear A170
   by_cases c18:t148=true
   ·subst c18
    have H1:(spec_l92Sigs.l0 k1 (wrap64 (x4_1 + 1)) s0_0 t146 y147 x145001_1 x145002_1)=some (r1,r2,r3,r4):=by rw [if_pos rfl] at H;exact H
    clear H
    have H:=H1
    clear H1
    have H':=Am H
    clear H
    try go_wp2
    have n0_:=Am (Kd.Q_drew Ba.out)
    have n1_:=Am (rD Bb.out)
    have n2_:=Am (rD Bc.out)
    have n3_:=Am (bD Be.out)
    have n4_:=Am (bD Bd.out)
    have n5_:=Am (IsS60.drew HI0.out)
    have n6_:=Am (keep_drew HK.out)
    have n7_:=Am (o1 HB.out)
    clear Ba
    clear Bb
    clear Bc
    clear Be
    clear Bd
    clear HI0
    clear HK
    clear HB
    have Ba:=n0_
    have Bb:=n1_
    have Bc:=n2_
    have Be:=n3_
    have Bd:=n4_
    have HI0:=n5_
    have HK:=n6_
    have HB:=n7_
    clear n0_ n1_ n2_ n3_ n4_ n5_ n6_ n7_
    refine start_ (n:=8) (S:=fun w'=>w'.cell? ⟨Bi,0,none⟩=some (u145000)∧w'.cell? ⟨Bi,1,none⟩=some (u145001)∧w'.cell? ⟨Bi,2,none⟩=some (u145002)) (ds:=[7]) z42q0 (by kernel_rfl) rfl rfl ⟨(bC Bd.out 0).trans rfl,(bC Bd.out 1).trans rfl,(bC Bd.out 2).trans rfl⟩ (fun hHeld=>?_);refine with_st spec_l92Sigs.tab5 spec_l92Sigs.bits5 (fun _ _ _ _ _ h=>h) (fun HT_=>?_)
    generalize wr.drew=w19 at Ba Bb Bc Be Bd HI0 HK HB hHeld ⊢
    refine pS 0 10 z42q1 HT_ rfl rfl (by kernel_rfl) (by rfl) (by intro w';go_simp;with_reducible rfl) (by simp only [Act.put,lA,lZ,lS,iw,jw];rfl) ?_
    refine pS 2 12 z42q2 HT_ rfl rfl (by kernel_rfl) (by rfl) (by intro w';go_simp;with_reducible rfl) (by simp only [Act.put,lA,lZ,lS,iw,jw];rfl) ?_
    refine pS 3 13 z42q3 HT_ rfl rfl (by kernel_rfl) (by rfl) (by intro w';go_simp;with_reducible rfl) (by simp only [Act.put,lA,lZ,lS,iw,jw];rfl) ?_
    refine tS 1 11 z42q4 HT_ hHeld rfl rfl (by kernel_rfl) (by rfl) (by rintro w' ⟨s0,s1,s2⟩;go_simp;with_reducible rfl) (by simp only [Act.put,lA,lZ,lS,iw,jw];rfl) ?_
    refine oS 4 14 z42q5 HT_ rfl rfl (by kernel_rfl) (by decide) (fun K hK=>?_)
    refine goes_ Try.func45 (by kernel_rfl) rfl #[.pointer (some ⟨g,0,none⟩),.int .i64 3] (by rfl) rfl rfl (by (try simp only [lM,lC,lN]);first|done|rfl|(simp only [lD,lT];rfl)) ?_
    with_reducible refine (spec_l6Rd_pick.calls k1 g s0_0 x1001_1 3 t145 t146 w0 _ ?side1 ?side2 A13.out).mono ?_
    (case side1=>repeat (first|(with_reducible first|exact HI0.out|apply IsS60.alloc|apply IsS60.drewN|apply IsS60.drew|apply IsS60.set_1|refine IsS60.far ?_ Bf.out _|refine IsS60.far ?_ Bg.out _)|exact HI0.out))
    (case side2=>repeat (first|(with_reducible first|exact HB.out|apply oA|apply pN|apply o1|refine bS ?_ (IsS60.ge HI0.out)|refine bS ?_ Bk.out|refine bS ?_ Bm.out)|exact HB.out))
    rintro e w20 ⟨rfl,hi,hb,hk⟩
    refine ⟨_,rfl,?_⟩
    have n0_:=Am (qM (Kd.Q_keep (IsS60.apartQ (show IsS60 w0 _ g s0_0 x1001_1 from by repeat (first|(with_reducible first|exact HI0.out|apply IsS60.alloc|apply IsS60.drewN|apply IsS60.drew|apply IsS60.set_1|refine IsS60.far ?_ Bf.out _|refine IsS60.far ?_ Bg.out _)|exact HI0.out)) (qL Ba.out) (by decide)) hk (fun _ h=>h.2)) (fun _ h=>h.1))
    have n1_:=Am (rM (Kd.R_keep (IsS60.apart (show IsS60 w0 _ g s0_0 x1001_1 from by repeat (first|(with_reducible first|exact HI0.out|apply IsS60.alloc|apply IsS60.drewN|apply IsS60.drew|apply IsS60.set_1|refine IsS60.far ?_ Bf.out _|refine IsS60.far ?_ Bg.out _)|exact HI0.out)) (rL Bb.out) (by decide)) hk (fun _ h=>h.2)) (fun _ h=>h.1))
    have n2_:=Am (rM (Kd.R_keep (IsS60.apart (show IsS60 w0 _ g s0_0 x1001_1 from by repeat (first|(with_reducible first|exact HI0.out|apply IsS60.alloc|apply IsS60.drewN|apply IsS60.drew|apply IsS60.set_1|refine IsS60.far ?_ Bf.out _|refine IsS60.far ?_ Bg.out _)|exact HI0.out)) (rL Bc.out) (by decide)) hk (fun _ h=>h.2)) (fun _ h=>h.1))
    have n3_:=Am (KeepBut.blk hk (g':=Bh) (o:=.cells #[.slice none 0 0,.slice none 0 0,.slice none 0 0] 26 (0,0)) (bL Be.out) Bo.out (by simp))
    have n4_:=Am (KeepBut.blk hk (g':=Bi) (o:=.cells #[u145000,u145001,u145002] 26 (0,0)) (bL Bd.out) Bn.out (by simp))
    have n5_:=Am (KeepBut.trans (by repeat (first|(with_reducible first|exact HK.out|apply KeepBut.set_|apply keep_drewN|apply keep_drew|apply keep_alloc|refine keep_far ?_ Bj.out _|refine keep_far ?_ Bl.out _)|exact HK.out)) hk (.inl rfl))
    have n6_:=Am (hb)
    have n7_:=Am (hi)
    clear Ba
    clear Bb
    clear Bc
    clear Be
    clear Bd
    clear HK
    clear HB
    clear HI0
    have Ba:=n0_
    have Bb:=n1_
    have Bc:=n2_
    have Be:=n3_
    have Bd:=n4_
    have HK:=n5_
    have HB:=n6_
    have HI0:=n7_
    clear n0_ n1_ n2_ n3_ n4_ n5_ n6_ n7_
    (try clear hb)
    (try clear hb2)
    (try clear hk)
    (try clear hi)
    have p16:0≤(x4_1:Int):=oE (by first|(with_reducible assumption)|assumption)
    have q16:(x4_1:Int)<((x145000_1.length:Int):Int):=oE (by first|(with_reducible assumption)|assumption)
    obtain ⟨go16,oo16,co16,eo16,Bv,gl16,cl16,HG16⟩:=Kd.Q_form Ba.out (by omega)
    (first|cases eo16|(injection eo16 with ea_ en_ ec_;(first|subst ea_|(injection ea_ with ea_;subst ea_));subst ec_;clear en_))
    have GB16:=Am Bv
    have GG16:=Am HG16
    clear Bv gl16 HG16
    obtain ⟨hx16_0,hf16_0⟩:=Kd.Q_cell false Ba.out (x4_1:Int) p16 q16
    replace p16:=eq_true p16
    replace q16:=eq_true q16
    have HN0_go16:=Am (show g≠go16 from by have h_:=IsS60.own_neQ HI0.out Ba.out (by decide);intro e_;exact h_ (by rw [e_];rfl))
    have HP21:=(Kd.Q_putg Ba.out (x4_1:Int) (oE (by first|(with_reducible assumption)|assumption)) (by have h_:(x4_1:Int)<((x145000_1.length:Int):Int):=oE (by first|(with_reducible assumption)|assumption);first|exact h_|(have e_:=(qR Ba.out).1;omega)|simpa using h_) (t145 == 0)).1
    rw [← Ny147.out] at HP21
    have HQ21:=Am HP21
    clear HP21
    refine hK.out _ _ ⟨(bC Bd.out 0).trans rfl,(bC Bd.out 1).trans rfl,(bC Bd.out 2).trans rfl⟩ (fun hHeld=>?_)
    clear hK K
    refine norm_ (by show Act.put _ (some 14) _=_;simp only [Act.put,lA,lZ,lS,iw,jw];rfl) ?_
    refine pS 5 15 z42q6 HT_ rfl rfl (by kernel_rfl) (by rfl) (by intro w';go_simp;with_reducible rfl) (by simp only [Act.put,lA,lZ,lS,iw,jw];rfl) ?_
    refine pS 6 16 z42q7 HT_ rfl rfl (by kernel_rfl) (by rfl) (by intro w';go_simp;with_reducible rfl) (by simp only [Act.put,lA,lZ,lS,iw,jw];rfl) ?_
    refine last_ (i:=7) (N:=none) z42q8 rfl rfl (one_of HT_.out (by kernel_rfl)) (by decide) (fun K hK=>?_)
    refine skip_ (w1:=?_) (by rfl) rfl ?_ ?_
    rotate_left;(go_simp;rfl)
    refine hK.out _ _ ?_
    clear hK K
    refine done_ (done_of HT_.out (by kernel_rfl)) ?_
    try go_wp2_with (first|((with_reducible refine gC (f:=43) rfl ?_);refine goesL_ (some 19) rfl rfl Try.func43 (by kernel_rfl) rfl #[.int .i64 (wrap64 (x4_1 + 1))] rfl (by (try simp only [lM,lC,lN]);first|done|rfl|(simp only [lD,lT];rfl)) ?_;(with_reducible refine (spec_l10Fixed.calls (wrap64 (x4_1 + 1)) true _ A17.out).mono ?_);rintro e w' ⟨rfl,⟨nd,rfl⟩⟩;refine ⟨_,rfl,?_⟩))
    go_roundg k1
    case measure=>have:=HK1.out;omega
    case rel=>exact ⟨(wrap64 (x4_1 + 1)),(t146),(y147),(x145001_1),(x145002_1),(.slice (some ⟨go16,oo16,none⟩) x145000_1.length co16),(u145001),(u145002),(by first|rfl|(simp;done)|(simp [*];done)),H',⟨by have:=HK1.out;omega⟩,⟨by (with_reducible repeat (first|apply Kd.Q_alloc|apply Kd.Q_drewN|apply Kd.Q_drew));exact HQ21.out⟩,⟨by (with_reducible repeat (first|apply rA|apply rN|apply rD));exact rM (rF (p:=⟨go16,oo16 + (x4_1:Int).toNat,none⟩) (rM Bb.out (fun k_ hk=>(⟨hk,fun e_=>hk (by rw [e_];rfl)⟩:_∧k_≠go16))) (fun _ hk=>hk.2) (.bool (t145 == 0))) (fun _ hk=>hk.1)⟩,⟨by (with_reducible repeat (first|apply rA|apply rN|apply rD));exact rM (rF (p:=⟨go16,oo16 + (x4_1:Int).toNat,none⟩) (rT Bc.out GG16.out (by decide)) (fun _ hk=>hk.2) (.bool (t145 == 0))) (fun _ hk=>trivial)⟩,⟨by (with_reducible repeat (first|refine bN ?_ _|refine bD ?_|refine bA ?_ _));refine bE ?_ (by have h_:=Kd.Q_ne Ba.out Be.out (by decide);intro e_;exact h_ (by rw [e_];rfl)) _;(with_reducible repeat (first|refine bN ?_ _|refine bD ?_|refine bA ?_ _));exact Be.out⟩,⟨by (with_reducible repeat (first|refine bN ?_ _|refine bD ?_|refine bA ?_ _));refine bE ?_ (by have h_:=Kd.Q_ne Ba.out Bd.out (by decide);intro e_;exact h_ (by rw [e_];rfl)) _;(with_reducible repeat (first|refine bN ?_ _|refine bD ?_|refine bA ?_ _));exact Bd.out⟩,⟨by repeat (first|(with_reducible first|exact HI0.out|apply IsS60.alloc|apply IsS60.drewN|apply IsS60.drew|apply IsS60.set_1|refine IsS60.far ?_ HN0_go16.out _|refine IsS60.far ?_ Bf.out _|refine IsS60.far ?_ Bg.out _)|exact HI0.out)⟩,⟨by repeat (first|(with_reducible first|exact HK.out|apply KeepBut.set_|apply keep_drewN|apply keep_drew|apply keep_alloc|refine keep_far ?_ GB16.out _|refine keep_far ?_ Bj.out _|refine keep_far ?_ Bl.out _)|exact HK.out)⟩,⟨by repeat (first|(with_reducible first|exact HB.out|apply oA|apply pN|apply o1|refine bS ?_ (Nat.le_trans HL.out GB16.out)|refine bS ?_ (IsS60.ge HI0.out)|refine bS ?_ Bk.out|refine bS ?_ Bm.out)|exact HB.out)⟩⟩
   replace c18:=Bool.eq_false_iff.mpr c18
   subst c18
   have H1:((spec_l6Rd_pick.f k1 s0_0 t146 3).bind fun bt149=>(if x4_1<(x145001_1.length:Int) then ((some (([0,0,1,4]:List Int):List Int)).bind fun y152=>((spec_l6Rd_pick.f k1 s0_0 bt149.2 4).bind fun bt155=>(if 0≤bt155.1 then (if bt155.1<(y152.length:Int) then (if x4_1<(x145002_1.length:Int) then (spec_l92Sigs.l0 k1 (wrap64 (x4_1 + 1)) s0_0 bt155.2 y147 (x145001_1.set (x4_1:Int).toNat (bt149.1 == 0)) (x145002_1.set (x4_1:Int).toNat (rd y152 bt155.1))) else (none)) else (none)) else (none)))) else (none)))=some (r1,r2,r3,r4):=by rw [if_neg (show ¬ (false=true) by decide)] at H;exact H
   clear H
   have H:=H1
   clear H1
   replace H:=oC H
   obtain ⟨⟨t149,t150⟩,A220,H⟩:=H
   replace H:(if x4_1<(x145001_1.length:Int) then ((some (([0,0,1,4]:List Int):List Int)).bind fun y152=>((spec_l6Rd_pick.f k1 s0_0 t150 4).bind fun bt155=>(if 0≤bt155.1 then (if bt155.1<(y152.length:Int) then (if x4_1<(x145002_1.length:Int) then (spec_l92Sigs.l0 k1 (wrap64 (x4_1 + 1)) s0_0 bt155.2 y147 (x145001_1.set (x4_1:Int).toNat (t149 == 0)) (x145002_1.set (x4_1:Int).toNat (rd y152 bt155.1))) else (none)) else (none)) else (none)))) else (none))=some (r1,r2,r3,r4):=H
   have A22:=Am A220
   clear A220
   by_cases c23:x4_1<(x145001_1.length:Int)
   rotate_left
   ·rw [if_neg c23] at H
    exact absurd H (by simp)
   rw [if_pos c23] at H
   have c23b0:decide (x4_1<(x145001_1.length:Int))=true:=dT c23
   clear c23
   obtain ⟨y151,hy151⟩:∃ y_:List Bool,y_=(x145001_1.set (x4_1:Int).toNat (t149 == 0)):=⟨_,rfl⟩
   replace H:((some (([0,0,1,4]:List Int):List Int)).bind fun y152=>((spec_l6Rd_pick.f k1 s0_0 t150 4).bind fun bt155=>(if 0≤bt155.1 then (if bt155.1<(y152.length:Int) then (if x4_1<(x145002_1.length:Int) then (spec_l92Sigs.l0 k1 (wrap64 (x4_1 + 1)) s0_0 bt155.2 y147 y151 (x145002_1.set (x4_1:Int).toNat (rd y152 bt155.1))) else (none)) else (none)) else (none))))=some (r1,r2,r3,r4):=by first|(rw [hy151];with_reducible exact H)|(have H2_:=(Option.bind_some _ _).symm.trans H;rw [hy151];with_reducible exact H2_)|(have H2_:=(Option.bind_some _ _).symm.trans H;with_reducible exact H2_)|with_reducible exact H|(rw [hy151];exact H)|exact H
   have Ny151:=Am hy151
   clear hy151
   obtain ⟨y152,hy152⟩:∃ y_:List Int,y_=(([0,0,1,4]:List Int)):=⟨_,rfl⟩
   replace H:((spec_l6Rd_pick.f k1 s0_0 t150 4).bind fun bt155=>(if 0≤bt155.1 then (if bt155.1<(y152.length:Int) then (if x4_1<(x145002_1.length:Int) then (spec_l92Sigs.l0 k1 (wrap64 (x4_1 + 1)) s0_0 bt155.2 y147 y151 (x145002_1.set (x4_1:Int).toNat (rd y152 bt155.1))) else (none)) else (none)) else (none)))=some (r1,r2,r3,r4):=by first|(rw [hy152];with_reducible exact H)|(have H2_:=(Option.bind_some _ _).symm.trans H;rw [hy152];with_reducible exact H2_)|(have H2_:=(Option.bind_some _ _).symm.trans H;with_reducible exact H2_)|with_reducible exact H|(rw [hy152];exact H)|exact H
   have Ny152:=Am hy152
   clear hy152
   replace H:=oC H
   obtain ⟨⟨t155,t156⟩,A250,H⟩:=H
   replace H:(if 0≤t155 then (if t155<(y152.length:Int) then (if x4_1<(x145002_1.length:Int) then (spec_l92Sigs.l0 k1 (wrap64 (x4_1 + 1)) s0_0 t156 y147 y151 (x145002_1.set (x4_1:Int).toNat (rd y152 t155))) else (none)) else (none)) else (none))=some (r1,r2,r3,r4):=H
   have A25:=Am A250
   clear A250
   by_cases c26:0≤t155
   rotate_left
   ·rw [if_neg c26] at H
    exact absurd H (by simp)
   rw [if_pos c26] at H
   have c26b0:decide (0≤t155)=true:=dT c26
   clear c26
   by_cases c27:t155<(y152.length:Int)
   rotate_left
   ·rw [if_neg c27] at H
    exact absurd H (by simp)
   rw [if_pos c27] at H
   have c27b0:decide (t155<(y152.length:Int))=true:=dT c27
   clear c27
   by_cases c28:x4_1<(x145002_1.length:Int)
   rotate_left
   ·rw [if_neg c28] at H
    exact absurd H (by simp)
   rw [if_pos c28] at H
   have c28b0:decide (x4_1<(x145002_1.length:Int))=true:=dT c28
   clear c28
   obtain ⟨y158,hy158⟩:∃ y_:List Int,y_=(x145002_1.set (x4_1:Int).toNat (rd y152 t155)):=⟨_,rfl⟩
   replace H:(spec_l92Sigs.l0 k1 (wrap64 (x4_1 + 1)) s0_0 t156 y147 y151 y158)=some (r1,r2,r3,r4):=by first|(rw [hy158];with_reducible exact H)|(have H2_:=(Option.bind_some _ _).symm.trans H;rw [hy158];with_reducible exact H2_)|(have H2_:=(Option.bind_some _ _).symm.trans H;with_reducible exact H2_)|with_reducible exact H|(rw [hy158];exact H)|exact H
   have Ny158:=Am hy158
   clear hy158
   have H':=Am H
   clear H
   try go_wp2
   have n0_:=Am (Kd.Q_drew Ba.out)
   have n1_:=Am (rD Bb.out)
   have n2_:=Am (rD Bc.out)
   have n3_:=Am (bD Be.out)
   have n4_:=Am (bD Bd.out)
   have n5_:=Am (IsS60.drew HI0.out)
   have n6_:=Am (keep_drew HK.out)
   have n7_:=Am (o1 HB.out)
   clear Ba
   clear Bb
   clear Bc
   clear Be
   clear Bd
   clear HI0
   clear HK
   clear HB
   have Ba:=n0_
   have Bb:=n1_
   have Bc:=n2_
   have Be:=n3_
   have Bd:=n4_
   have HI0:=n5_
   have HK:=n6_
   have HB:=n7_
   clear n0_ n1_ n2_ n3_ n4_ n5_ n6_ n7_
   refine start_ (n:=8) (S:=fun w'=>w'.cell? ⟨Bi,0,none⟩=some (u145000)∧w'.cell? ⟨Bi,1,none⟩=some (u145001)∧w'.cell? ⟨Bi,2,none⟩=some (u145002)) (ds:=[7]) z42q0 (by kernel_rfl) rfl rfl ⟨(bC Bd.out 0).trans rfl,(bC Bd.out 1).trans rfl,(bC Bd.out 2).trans rfl⟩ (fun hHeld=>?_);refine with_st spec_l92Sigs.tab5 spec_l92Sigs.bits5 (fun _ _ _ _ _ h=>h) (fun HT_=>?_)
   generalize wr.drew=w30 at Ba Bb Bc Be Bd HI0 HK HB hHeld ⊢
   refine pS 0 10 z42q1 HT_ rfl rfl (by kernel_rfl) (by rfl) (by intro w';go_simp;with_reducible rfl) (by simp only [Act.put,lA,lZ,lS,iw,jw];rfl) ?_
   refine pS 2 12 z42q2 HT_ rfl rfl (by kernel_rfl) (by rfl) (by intro w';go_simp;with_reducible rfl) (by simp only [Act.put,lA,lZ,lS,iw,jw];rfl) ?_
   refine pS 3 13 z42q3 HT_ rfl rfl (by kernel_rfl) (by rfl) (by intro w';go_simp;with_reducible rfl) (by simp only [Act.put,lA,lZ,lS,iw,jw];rfl) ?_
   refine tS 1 11 z42q4 HT_ hHeld rfl rfl (by kernel_rfl) (by rfl) (by rintro w' ⟨s0,s1,s2⟩;go_simp;with_reducible rfl) (by simp only [Act.put,lA,lZ,lS,iw,jw];rfl) ?_
   refine oS 4 14 z42q5 HT_ rfl rfl (by kernel_rfl) (by decide) (fun K hK=>?_)
   refine goes_ Try.func45 (by kernel_rfl) rfl #[.pointer (some ⟨g,0,none⟩),.int .i64 3] (by rfl) rfl rfl (by (try simp only [lM,lC,lN]);first|done|rfl|(simp only [lD,lT];rfl)) ?_
   with_reducible refine (spec_l6Rd_pick.calls k1 g s0_0 x1001_1 3 t145 t146 w0 _ ?side1 ?side2 A13.out).mono ?_
   (case side1=>repeat (first|(with_reducible first|exact HI0.out|apply IsS60.alloc|apply IsS60.drewN|apply IsS60.drew|apply IsS60.set_1|refine IsS60.far ?_ Bf.out _|refine IsS60.far ?_ Bg.out _)|exact HI0.out))
   (case side2=>repeat (first|(with_reducible first|exact HB.out|apply oA|apply pN|apply o1|refine bS ?_ (IsS60.ge HI0.out)|refine bS ?_ Bk.out|refine bS ?_ Bm.out)|exact HB.out))
   rintro e w31 ⟨rfl,hi,hb,hk⟩
   refine ⟨_,rfl,?_⟩
   have n0_:=Am (qM (Kd.Q_keep (IsS60.apartQ (show IsS60 w0 _ g s0_0 x1001_1 from by repeat (first|(with_reducible first|exact HI0.out|apply IsS60.alloc|apply IsS60.drewN|apply IsS60.drew|apply IsS60.set_1|refine IsS60.far ?_ Bf.out _|refine IsS60.far ?_ Bg.out _)|exact HI0.out)) (qL Ba.out) (by decide)) hk (fun _ h=>h.2)) (fun _ h=>h.1))
   have n1_:=Am (rM (Kd.R_keep (IsS60.apart (show IsS60 w0 _ g s0_0 x1001_1 from by repeat (first|(with_reducible first|exact HI0.out|apply IsS60.alloc|apply IsS60.drewN|apply IsS60.drew|apply IsS60.set_1|refine IsS60.far ?_ Bf.out _|refine IsS60.far ?_ Bg.out _)|exact HI0.out)) (rL Bb.out) (by decide)) hk (fun _ h=>h.2)) (fun _ h=>h.1))
   have n2_:=Am (rM (Kd.R_keep (IsS60.apart (show IsS60 w0 _ g s0_0 x1001_1 from by repeat (first|(with_reducible first|exact HI0.out|apply IsS60.alloc|apply IsS60.drewN|apply IsS60.drew|apply IsS60.set_1|refine IsS60.far ?_ Bf.out _|refine IsS60.far ?_ Bg.out _)|exact HI0.out)) (rL Bc.out) (by decide)) hk (fun _ h=>h.2)) (fun _ h=>h.1))
   have n3_:=Am (KeepBut.blk hk (g':=Bh) (o:=.cells #[.slice none 0 0,.slice none 0 0,.slice none 0 0] 26 (0,0)) (bL Be.out) Bo.out (by simp))
   have n4_:=Am (KeepBut.blk hk (g':=Bi) (o:=.cells #[u145000,u145001,u145002] 26 (0,0)) (bL Bd.out) Bn.out (by simp))
   have n5_:=Am (KeepBut.trans (by repeat (first|(with_reducible first|exact HK.out|apply KeepBut.set_|apply keep_drewN|apply keep_drew|apply keep_alloc|refine keep_far ?_ Bj.out _|refine keep_far ?_ Bl.out _)|exact HK.out)) hk (.inl rfl))
   have n6_:=Am (hb)
   have n7_:=Am (hi)
   clear Ba
   clear Bb
   clear Bc
   clear Be
   clear Bd
   clear HK
   clear HB
   clear HI0
   have Ba:=n0_
   have Bb:=n1_
   have Bc:=n2_
   have Be:=n3_
   have Bd:=n4_
   have HK:=n5_
   have HB:=n6_
   have HI0:=n7_
   clear n0_ n1_ n2_ n3_ n4_ n5_ n6_ n7_
   (try clear hb)
   (try clear hb2)
   (try clear hk)
   (try clear hi)
   have p16:0≤(x4_1:Int):=oE (by first|(with_reducible assumption)|assumption)
   have q16:(x4_1:Int)<((x145000_1.length:Int):Int):=oE (by first|(with_reducible assumption)|assumption)
   obtain ⟨go16,oo16,co16,eo16,Bv,gl16,cl16,HG16⟩:=Kd.Q_form Ba.out (by omega)
   (first|cases eo16|(injection eo16 with ea_ en_ ec_;(first|subst ea_|(injection ea_ with ea_;subst ea_));subst ec_;clear en_))
   have GB16:=Am Bv
   have GG16:=Am HG16
   clear Bv gl16 HG16
   obtain ⟨hx16_0,hf16_0⟩:=Kd.Q_cell false Ba.out (x4_1:Int) p16 q16
   replace p16:=eq_true p16
   replace q16:=eq_true q16
   have HN0_go16:=Am (show g≠go16 from by have h_:=IsS60.own_neQ HI0.out Ba.out (by decide);intro e_;exact h_ (by rw [e_];rfl))
   have HP32:=(Kd.Q_putg Ba.out (x4_1:Int) (oE (by first|(with_reducible assumption)|assumption)) (by have h_:(x4_1:Int)<((x145000_1.length:Int):Int):=oE (by first|(with_reducible assumption)|assumption);first|exact h_|(have e_:=(qR Ba.out).1;omega)|simpa using h_) (t145 == 0)).1
   rw [← Ny147.out] at HP32
   have HQ32:=Am HP32
   clear HP32
   refine hK.out _ _ ⟨(bC Bd.out 0).trans rfl,(bC Bd.out 1).trans rfl,(bC Bd.out 2).trans rfl⟩ (fun hHeld=>?_)
   clear hK K
   refine norm_ (by show Act.put _ (some 14) _=_;simp only [Act.put,lA,lZ,lS,iw,jw];rfl) ?_
   refine pS 5 15 z42q6 HT_ rfl rfl (by kernel_rfl) (by rfl) (by intro w';go_simp;with_reducible rfl) (by simp only [Act.put,lA,lZ,lS,iw,jw];rfl) ?_
   refine pS 6 16 z42q7 HT_ rfl rfl (by kernel_rfl) (by rfl) (by intro w';go_simp;with_reducible rfl) (by simp only [Act.put,lA,lZ,lS,iw,jw];rfl) ?_
   refine last_ (i:=7) (N:=none) z42q8 rfl rfl (one_of HT_.out (by kernel_rfl)) (by decide) (fun K hK=>?_)
   refine skip_ (w1:=?_) (by rfl) rfl ?_ ?_
   rotate_left;(go_simp;rfl)
   refine hK.out _ _ ?_
   clear hK K
   refine done_ (done_of HT_.out (by kernel_rfl)) ?_
   try go_wp2_with (first|((with_reducible refine gC (f:=43) rfl ?_);refine goesL_ (some 19) rfl rfl Try.func43 (by kernel_rfl) rfl #[.int .i64 (wrap64 (x4_1 + 1))] rfl (by (try simp only [lM,lC,lN]);first|done|rfl|(simp only [lD,lT];rfl)) ?_;(with_reducible refine (spec_l10Fixed.calls (wrap64 (x4_1 + 1)) false _ A17.out).mono ?_);rintro e w' ⟨rfl,⟨nd,rfl⟩⟩;refine ⟨_,rfl,?_⟩))
   have n0_:Aside0 (Kd.Q Kd.bool 4 (w31.setCell ⟨go16,oo16 + (x4_1:Int).toNat,none⟩ (.bool (t145 == 0))) w.heap.size (fun k_=>some k_≠(u145001:Value).ownBlock) (.slice (some ⟨go16,oo16,none⟩) x145000_1.length co16) y147):=⟨by (with_reducible repeat (first|apply Kd.Q_alloc|apply Kd.Q_drewN|apply Kd.Q_drew));exact HQ32.out⟩
   have n1_:Aside0 (Kd.R Kd.bool 4 (w31.setCell ⟨go16,oo16 + (x4_1:Int).toNat,none⟩ (.bool (t145 == 0))) w.heap.size (fun k_=>some k_≠(.slice (some ⟨go16,oo16,none⟩) x145000_1.length co16:Value).ownBlock) u145001 x145001_1):=⟨by (with_reducible repeat (first|apply rA|apply rN|apply rD));exact rM (rF (p:=⟨go16,oo16 + (x4_1:Int).toNat,none⟩) (rM Bb.out (fun k_ hk=>(⟨hk,fun e_=>hk (by rw [e_];rfl)⟩:_∧k_≠go16))) (fun _ hk=>hk.2) (.bool (t145 == 0))) (fun _ hk=>hk.1)⟩
   have n2_:Aside0 (Kd.R (Kd.int .i64) 3 (w31.setCell ⟨go16,oo16 + (x4_1:Int).toNat,none⟩ (.bool (t145 == 0))) w.heap.size (fun _=>True) u145002 x145002_1):=⟨by (with_reducible repeat (first|apply rA|apply rN|apply rD));exact rM (rF (p:=⟨go16,oo16 + (x4_1:Int).toNat,none⟩) (rT Bc.out GG16.out (by decide)) (fun _ hk=>hk.2) (.bool (t145 == 0))) (fun _ hk=>trivial)⟩
   have n3_:Aside0 ((w31.setCell ⟨go16,oo16 + (x4_1:Int).toNat,none⟩ (.bool (t145 == 0))).heap[Bh]?=some (.cells #[.slice none 0 0,.slice none 0 0,.slice none 0 0] 26 (0,0))):=⟨by (with_reducible repeat (first|refine bN ?_ _|refine bD ?_|refine bA ?_ _));refine bE ?_ (by have h_:=Kd.Q_ne Ba.out Be.out (by decide);intro e_;exact h_ (by rw [e_];rfl)) _;(with_reducible repeat (first|refine bN ?_ _|refine bD ?_|refine bA ?_ _));exact Be.out⟩
   have n4_:Aside0 ((w31.setCell ⟨go16,oo16 + (x4_1:Int).toNat,none⟩ (.bool (t145 == 0))).heap[Bi]?=some (.cells #[.slice (some ⟨go16,oo16,none⟩) x145000_1.length co16,u145001,u145002] 26 (0,0))):=⟨by (with_reducible repeat (first|refine bN ?_ _|refine bD ?_|refine bA ?_ _));refine bE ?_ (by have h_:=Kd.Q_ne Ba.out Bd.out (by decide);intro e_;exact h_ (by rw [e_];rfl)) _;(with_reducible repeat (first|refine bN ?_ _|refine bD ?_|refine bA ?_ _));exact Bd.out⟩
   have n5_:Aside0 (IsS60 w0 (w31.setCell ⟨go16,oo16 + (x4_1:Int).toNat,none⟩ (.bool (t145 == 0))) g s0_0 t146):=⟨by repeat (first|(with_reducible first|exact HI0.out|apply IsS60.alloc|apply IsS60.drewN|apply IsS60.drew|apply IsS60.set_1|refine IsS60.far ?_ HN0_go16.out _|refine IsS60.far ?_ Bf.out _|refine IsS60.far ?_ Bg.out _)|exact HI0.out)⟩
   have n6_:Aside0 (KeepBut w (w31.setCell ⟨go16,oo16 + (x4_1:Int).toNat,none⟩ (.bool (t145 == 0))) g none):=⟨by repeat (first|(with_reducible first|exact HK.out|apply KeepBut.set_|apply keep_drewN|apply keep_drew|apply keep_alloc|refine keep_far ?_ GB16.out _|refine keep_far ?_ Bj.out _|refine keep_far ?_ Bl.out _)|exact HK.out)⟩
   have n7_:Aside0 (Below w0.heap.size w0 (w31.setCell ⟨go16,oo16 + (x4_1:Int).toNat,none⟩ (.bool (t145 == 0)))):=⟨by repeat (first|(with_reducible first|exact HB.out|apply oA|apply pN|apply o1|refine bS ?_ (Nat.le_trans HL.out GB16.out)|refine bS ?_ (IsS60.ge HI0.out)|refine bS ?_ Bk.out|refine bS ?_ Bm.out)|exact HB.out)⟩
   (try clear Ba)
   (try clear Bb)
   (try clear Bc)
   (try clear Be)
   (try clear Bd)
   (try clear HI0)
   (try clear HK)
   (try clear HB)
   generalize (w31.setCell ⟨go16,oo16 + (x4_1:Int).toNat,none⟩ (.bool (t145 == 0)))=w33 at n0_ n1_ n2_ n3_ n4_ n5_ n6_ n7_ ⊢
   have Ba:=n0_
   have Bb:=n1_
   have Bc:=n2_
   have Be:=n3_
   have Bd:=n4_
   have HI0:=n5_
   have HK:=n6_
   have HB:=n7_
   clear n0_ n1_ n2_ n3_ n4_ n5_ n6_ n7_
   (try (rw [drewN_self w33];generalize hq_:World.drewN w33 _=w33;have n0_:Aside0 (Kd.Q Kd.bool 4 w33 w.heap.size (fun k_=>some k_≠(u145001:Value).ownBlock) (.slice (some ⟨go16,oo16,none⟩) x145000_1.length co16) y147):=⟨by rw [← hq_];exact (qL Ba.out)⟩;have n1_:Aside0 (Kd.R Kd.bool 4 w33 w.heap.size (fun k_=>some k_≠(.slice (some ⟨go16,oo16,none⟩) x145000_1.length co16:Value).ownBlock) u145001 x145001_1):=⟨by rw [← hq_];exact (rL Bb.out)⟩;have n2_:Aside0 (Kd.R (Kd.int .i64) 3 w33 w.heap.size (fun _=>True) u145002 x145002_1):=⟨by rw [← hq_];exact (rL Bc.out)⟩;have n3_:Aside0 (w33.heap[Bh]?=some (.cells #[.slice none 0 0,.slice none 0 0,.slice none 0 0] 26 (0,0))):=⟨by rw [← hq_];exact (bL Be.out)⟩;have n4_:Aside0 (w33.heap[Bi]?=some (.cells #[.slice (some ⟨go16,oo16,none⟩) x145000_1.length co16,u145001,u145002] 26 (0,0))):=⟨by rw [← hq_];exact (bL Bd.out)⟩;have n5_:Aside0 (IsS60 w0 w33 g s0_0 t146):=⟨by rw [← hq_];exact (by repeat (first|(with_reducible first|exact HI0.out|apply IsS60.alloc|apply IsS60.drewN|apply IsS60.drew|apply IsS60.set_1|refine IsS60.far ?_ Bf.out _|refine IsS60.far ?_ Bg.out _)|exact HI0.out))⟩;have n6_:Aside0 (KeepBut w w33 g none):=⟨by rw [← hq_];exact (by repeat (first|(with_reducible first|exact HK.out|apply KeepBut.set_|apply keep_drewN|apply keep_drew|apply keep_alloc|refine keep_far ?_ Bj.out _|refine keep_far ?_ Bl.out _)|exact HK.out))⟩;have n7_:Aside0 (Below w0.heap.size w0 w33):=⟨by rw [← hq_];exact (by repeat (first|(with_reducible first|exact HB.out|apply oA|apply pN|apply o1|refine bS ?_ (IsS60.ge HI0.out)|refine bS ?_ Bk.out|refine bS ?_ Bm.out)|exact HB.out))⟩;clear Ba Bb Bc Be Bd HI0 HK HB hq_;revert n0_ n1_ n2_ n3_ n4_ n5_ n6_ n7_;intro Ba Bb Bc Be Bd HI0 HK HB))
   have n0_:=Am (Kd.Q_drew Ba.out)
   have n1_:=Am (rD Bb.out)
   have n2_:=Am (rD Bc.out)
   have n3_:=Am (bD Be.out)
   have n4_:=Am (bD Bd.out)
   have n5_:=Am (IsS60.drew HI0.out)
   have n6_:=Am (keep_drew HK.out)
   have n7_:=Am (o1 HB.out)
   clear Ba
   clear Bb
   clear Bc
   clear Be
   clear Bd
   clear HI0
   clear HK
   clear HB
   have Ba:=n0_
   have Bb:=n1_
   have Bc:=n2_
   have Be:=n3_
   have Bd:=n4_
   have HI0:=n5_
   have HK:=n6_
   have HB:=n7_
   clear n0_ n1_ n2_ n3_ n4_ n5_ n6_ n7_
   refine start_ (n:=8) (S:=fun w'=>w'.cell? ⟨Bi,0,none⟩=some (.slice (some ⟨go16,oo16,none⟩) x145000_1.length co16)∧w'.cell? ⟨Bi,1,none⟩=some (u145001)∧w'.cell? ⟨Bi,2,none⟩=some (u145002)) (ds:=[7]) z42q0 (by kernel_rfl) rfl rfl ⟨(bC Bd.out 0).trans rfl,(bC Bd.out 1).trans rfl,(bC Bd.out 2).trans rfl⟩ (fun hHeld=>?_);refine with_st spec_l92Sigs.tab7 spec_l92Sigs.bits7 (fun _ _ _ _ _ h=>h) (fun HT_=>?_)
   generalize w33.drew=w34 at Ba Bb Bc Be Bd HI0 HK HB HQ32 hHeld ⊢
   refine pS 0 21 z42q1 HT_ rfl rfl (by kernel_rfl) (by rfl) (by intro w';go_simp;with_reducible rfl) (by simp only [Act.put,lA,lZ,lS,iw,jw];rfl) ?_
   refine pS 2 23 z42q2 HT_ rfl rfl (by kernel_rfl) (by rfl) (by intro w';go_simp;with_reducible rfl) (by simp only [Act.put,lA,lZ,lS,iw,jw];rfl) ?_
   refine pS 3 24 z42q3 HT_ rfl rfl (by kernel_rfl) (by rfl) (by intro w';go_simp;with_reducible rfl) (by simp only [Act.put,lA,lZ,lS,iw,jw];rfl) ?_
   refine tS 1 22 z42q4 HT_ hHeld rfl rfl (by kernel_rfl) (by rfl) (by rintro w' ⟨s0,s1,s2⟩;go_simp;with_reducible rfl) (by simp only [Act.put,lA,lZ,lS,iw,jw];rfl) ?_
   refine oS 4 25 z42q5 HT_ rfl rfl (by kernel_rfl) (by decide) (fun K hK=>?_)
   refine goes_ Try.func45 (by kernel_rfl) rfl #[.pointer (some ⟨g,0,none⟩),.int .i64 3] (by rfl) rfl rfl (by (try simp only [lM,lC,lN]);first|done|rfl|(simp only [lD,lT];rfl)) ?_
   with_reducible refine (spec_l6Rd_pick.calls k1 g s0_0 t146 3 t149 t150 w0 _ ?side1 ?side2 A22.out).mono ?_
   (case side1=>repeat (first|(with_reducible first|exact HI0.out|apply IsS60.alloc|apply IsS60.drewN|apply IsS60.drew|apply IsS60.set_1|refine IsS60.far ?_ Bf.out _|refine IsS60.far ?_ Bg.out _)|exact HI0.out))
   (case side2=>repeat (first|(with_reducible first|exact HB.out|apply oA|apply pN|apply o1|refine bS ?_ (IsS60.ge HI0.out)|refine bS ?_ Bk.out|refine bS ?_ Bm.out)|exact HB.out))
   rintro e w35 ⟨rfl,hi,hb,hk⟩
   refine ⟨_,rfl,?_⟩
   have n0_:=Am (qM (Kd.Q_keep (IsS60.apartQ (show IsS60 w0 _ g s0_0 t146 from by repeat (first|(with_reducible first|exact HI0.out|apply IsS60.alloc|apply IsS60.drewN|apply IsS60.drew|apply IsS60.set_1|refine IsS60.far ?_ Bf.out _|refine IsS60.far ?_ Bg.out _)|exact HI0.out)) (qL Ba.out) (by decide)) hk (fun _ h=>h.2)) (fun _ h=>h.1))
   have n1_:=Am (rM (Kd.R_keep (IsS60.apart (show IsS60 w0 _ g s0_0 t146 from by repeat (first|(with_reducible first|exact HI0.out|apply IsS60.alloc|apply IsS60.drewN|apply IsS60.drew|apply IsS60.set_1|refine IsS60.far ?_ Bf.out _|refine IsS60.far ?_ Bg.out _)|exact HI0.out)) (rL Bb.out) (by decide)) hk (fun _ h=>h.2)) (fun _ h=>h.1))
   have n2_:=Am (rM (Kd.R_keep (IsS60.apart (show IsS60 w0 _ g s0_0 t146 from by repeat (first|(with_reducible first|exact HI0.out|apply IsS60.alloc|apply IsS60.drewN|apply IsS60.drew|apply IsS60.set_1|refine IsS60.far ?_ Bf.out _|refine IsS60.far ?_ Bg.out _)|exact HI0.out)) (rL Bc.out) (by decide)) hk (fun _ h=>h.2)) (fun _ h=>h.1))
   have n3_:=Am (KeepBut.blk hk (g':=Bh) (o:=.cells #[.slice none 0 0,.slice none 0 0,.slice none 0 0] 26 (0,0)) (bL Be.out) Bo.out (by simp))
   have n4_:=Am (KeepBut.blk hk (g':=Bi) (o:=.cells #[.slice (some ⟨go16,oo16,none⟩) x145000_1.length co16,u145001,u145002] 26 (0,0)) (bL Bd.out) Bn.out (by simp))
   have n5_:=Am (KeepBut.trans (by repeat (first|(with_reducible first|exact HK.out|apply KeepBut.set_|apply keep_drewN|apply keep_drew|apply keep_alloc|refine keep_far ?_ Bj.out _|refine keep_far ?_ Bl.out _)|exact HK.out)) hk (.inl rfl))
   have n6_:=Am (hb)
   have n7_:=Am (hi)
   clear Ba
   clear Bb
   clear Bc
   clear Be
   clear Bd
   clear HK
   clear HB
   clear HI0
   have Ba:=n0_
   have Bb:=n1_
   have Bc:=n2_
   have Be:=n3_
   have Bd:=n4_
   have HK:=n5_
   have HB:=n6_
   have HI0:=n7_
   clear n0_ n1_ n2_ n3_ n4_ n5_ n6_ n7_
   (try clear hb)
   (try clear hb2)
   (try clear hk)
   (try clear hi)
   have p24:0≤(x4_1:Int):=oE (by first|(with_reducible assumption)|assumption)
   have q24:(x4_1:Int)<((x145001_1.length:Int):Int):=oE (by first|(with_reducible assumption)|assumption)
   obtain ⟨go24,co24,eo24,BC,gl24,cl24,HG24⟩:=Kd.R_form Bb.out (by omega)
   (first|cases eo24|(injection eo24 with ea_ en_ ec_;(first|subst ea_|(injection ea_ with ea_;subst ea_));subst ec_;clear en_))
   have GB24:=Am BC
   have GG24:=Am HG24
   clear BC gl24 HG24
   obtain ⟨hx24_0,hf24_0⟩:=Kd.R_celln false Bb.out (x4_1:Int) p24 q24
   replace p24:=eq_true p24
   replace q24:=eq_true q24
   have HN0_go24:=Am (show g≠go24 from by have h_:=IsS60.own_ne HI0.out Bb.out (by decide);intro e_;exact h_ (by rw [e_];rfl))
   have HP36:=Kd.R_putn Bb.out (x4_1:Int) (t149 == 0)
   rw [← Ny151.out] at HP36
   have HQ36:=Am HP36
   clear HP36
   refine hK.out _ _ ⟨(bC Bd.out 0).trans rfl,(bC Bd.out 1).trans rfl,(bC Bd.out 2).trans rfl⟩ (fun hHeld=>?_)
   clear hK K
   refine norm_ (by show Act.put _ (some 25) _=_;simp only [Act.put,lA,lZ,lS,iw,jw];rfl) ?_
   refine pS 5 26 z42q6 HT_ rfl rfl (by kernel_rfl) (by rfl) (by intro w';go_simp;with_reducible rfl) (by simp only [Act.put,lA,lZ,lS,iw,jw];rfl) ?_
   refine pS 6 27 z42q7 HT_ rfl rfl (by kernel_rfl) (by rfl) (by intro w';go_simp;with_reducible rfl) (by simp only [Act.put,lA,lZ,lS,iw,jw];rfl) ?_
   refine last_ (i:=7) (N:=none) z42q8 rfl rfl (one_of HT_.out (by kernel_rfl)) (by decide) (fun K hK=>?_)
   refine skip_ (w1:=?_) (by rfl) rfl ?_ ?_
   rotate_left;(go_simp;rfl)
   refine hK.out _ _ ?_
   clear hK K
   refine done_ (done_of HT_.out (by kernel_rfl)) ?_
   try go_wp2
   have pi157:(0≤(t155:Int))=True:=eq_true (oE (by first|(with_reducible assumption)|assumption))
   have qi157:(t155<(y152.length:Int))=True:=eq_true (oE (by first|(with_reducible assumption)|assumption))
   have n0_:Aside0 (Kd.Q Kd.bool 4 (w35.setCell ⟨go24,(x4_1:Int).toNat,none⟩ (.bool (t149 == 0))) w.heap.size (fun k_=>some k_≠(.slice (some ⟨go24,0,none⟩) x145001_1.length co24:Value).ownBlock) (.slice (some ⟨go16,oo16,none⟩) x145000_1.length co16) y147):=⟨by (with_reducible repeat (first|apply Kd.Q_alloc|apply Kd.Q_drewN|apply Kd.Q_drew));exact qM (Kd.Q_far (p:=⟨go24,(x4_1:Int).toNat,none⟩) (qM Ba.out (fun k_ hk=>(⟨hk,fun e_=>hk (by rw [e_];rfl)⟩:_∧k_≠go24))) (fun _ hk=>hk.2) (.bool (t149 == 0))) (fun _ hk=>hk.1)⟩
   have n1_:Aside0 (Kd.R Kd.bool 4 (w35.setCell ⟨go24,(x4_1:Int).toNat,none⟩ (.bool (t149 == 0))) w.heap.size (fun k_=>some k_≠(.slice (some ⟨go16,oo16,none⟩) x145000_1.length co16:Value).ownBlock) (.slice (some ⟨go24,0,none⟩) x145001_1.length co24) y151):=⟨by (with_reducible repeat (first|apply rA|apply rN|apply rD));exact HQ36.out⟩
   have n2_:Aside0 (Kd.R (Kd.int .i64) 3 (w35.setCell ⟨go24,(x4_1:Int).toNat,none⟩ (.bool (t149 == 0))) w.heap.size (fun _=>True) u145002 x145002_1):=⟨by (with_reducible repeat (first|apply rA|apply rN|apply rD));exact rM (rF (p:=⟨go24,(x4_1:Int).toNat,none⟩) (rT Bc.out GG24.out (by decide)) (fun _ hk=>hk.2) (.bool (t149 == 0))) (fun _ hk=>trivial)⟩
   have n3_:Aside0 ((w35.setCell ⟨go24,(x4_1:Int).toNat,none⟩ (.bool (t149 == 0))).heap[Bh]?=some (.cells #[.slice none 0 0,.slice none 0 0,.slice none 0 0] 26 (0,0))):=⟨by (with_reducible repeat (first|refine bN ?_ _|refine bD ?_|refine bA ?_ _));refine bE ?_ (by have h_:=rE Bb.out Be.out (by decide);intro e_;exact h_ (by rw [e_];rfl)) _;(with_reducible repeat (first|refine bN ?_ _|refine bD ?_|refine bA ?_ _));exact Be.out⟩
   have n4_:Aside0 ((w35.setCell ⟨go24,(x4_1:Int).toNat,none⟩ (.bool (t149 == 0))).heap[Bi]?=some (.cells #[.slice (some ⟨go16,oo16,none⟩) x145000_1.length co16,.slice (some ⟨go24,0,none⟩) x145001_1.length co24,u145002] 26 (0,0))):=⟨by (with_reducible repeat (first|refine bN ?_ _|refine bD ?_|refine bA ?_ _));refine bE ?_ (by have h_:=rE Bb.out Bd.out (by decide);intro e_;exact h_ (by rw [e_];rfl)) _;(with_reducible repeat (first|refine bN ?_ _|refine bD ?_|refine bA ?_ _));exact Bd.out⟩
   have n5_:Aside0 (IsS60 w0 (w35.setCell ⟨go24,(x4_1:Int).toNat,none⟩ (.bool (t149 == 0))) g s0_0 t150):=⟨by repeat (first|(with_reducible first|exact HI0.out|apply IsS60.alloc|apply IsS60.drewN|apply IsS60.drew|apply IsS60.set_1|refine IsS60.far ?_ HN0_go24.out _|refine IsS60.far ?_ Bf.out _|refine IsS60.far ?_ Bg.out _)|exact HI0.out)⟩
   have n6_:Aside0 (KeepBut w (w35.setCell ⟨go24,(x4_1:Int).toNat,none⟩ (.bool (t149 == 0))) g none):=⟨by repeat (first|(with_reducible first|exact HK.out|apply KeepBut.set_|apply keep_drewN|apply keep_drew|apply keep_alloc|refine keep_far ?_ GB24.out _|refine keep_far ?_ Bj.out _|refine keep_far ?_ Bl.out _)|exact HK.out)⟩
   have n7_:Aside0 (Below w0.heap.size w0 (w35.setCell ⟨go24,(x4_1:Int).toNat,none⟩ (.bool (t149 == 0)))):=⟨by repeat (first|(with_reducible first|exact HB.out|apply oA|apply pN|apply o1|refine bS ?_ (Nat.le_trans HL.out GB24.out)|refine bS ?_ (IsS60.ge HI0.out)|refine bS ?_ Bk.out|refine bS ?_ Bm.out)|exact HB.out)⟩
   (try clear Ba)
   (try clear Bb)
   (try clear Bc)
   (try clear Be)
   (try clear Bd)
   (try clear HI0)
   (try clear HK)
   (try clear HB)
   generalize (w35.setCell ⟨go24,(x4_1:Int).toNat,none⟩ (.bool (t149 == 0)))=w37 at n0_ n1_ n2_ n3_ n4_ n5_ n6_ n7_ ⊢
   have Ba:=n0_
   have Bb:=n1_
   have Bc:=n2_
   have Be:=n3_
   have Bd:=n4_
   have HI0:=n5_
   have HK:=n6_
   have HB:=n7_
   clear n0_ n1_ n2_ n3_ n4_ n5_ n6_ n7_
   have n0_:=Am (Kd.Q_drew Ba.out)
   have n1_:=Am (rD Bb.out)
   have n2_:=Am (rD Bc.out)
   have n3_:=Am (bD Be.out)
   have n4_:=Am (bD Bd.out)
   have n5_:=Am (IsS60.drew HI0.out)
   have n6_:=Am (keep_drew HK.out)
   have n7_:=Am (o1 HB.out)
   clear Ba
   clear Bb
   clear Bc
   clear Be
   clear Bd
   clear HI0
   clear HK
   clear HB
   have Ba:=n0_
   have Bb:=n1_
   have Bc:=n2_
   have Be:=n3_
   have Bd:=n4_
   have HI0:=n5_
   have HK:=n6_
   have HB:=n7_
   clear n0_ n1_ n2_ n3_ n4_ n5_ n6_ n7_
   refine start_ (n:=10) (S:=fun w'=>w'.cell? ⟨Bi,0,none⟩=some (.slice (some ⟨go16,oo16,none⟩) x145000_1.length co16)∧w'.cell? ⟨Bi,1,none⟩=some (.slice (some ⟨go24,0,none⟩) x145001_1.length co24)∧w'.cell? ⟨Bi,2,none⟩=some (u145002)) (ds:=[9]) z42q9 (by kernel_rfl) rfl rfl ⟨(bC Bd.out 0).trans rfl,(bC Bd.out 1).trans rfl,(bC Bd.out 2).trans rfl⟩ (fun hHeld=>?_);refine with_st spec_l92Sigs.tab8 spec_l92Sigs.bits8 (fun _ _ _ _ _ h=>h) (fun HT_=>?_)
   generalize w37.drew=w38 at Ba Bb Bc Be Bd HI0 HK HB HQ36 hHeld ⊢
   refine pS 0 28 z42q10 HT_ rfl rfl (by kernel_rfl) (by rfl) (by intro w';go_simp;with_reducible rfl) (by simp only [Act.put,lA,lZ,lS,iw,jw];rfl) ?_
   refine pS 2 30 z42q11 HT_ rfl rfl (by kernel_rfl) (by rfl) (by intro w';go_simp;with_reducible rfl) (by simp only [Act.put,lA,lZ,lS,iw,jw];rfl) ?_
   refine pS 4 32 z42q12 HT_ rfl rfl (by kernel_rfl) (by rfl) (by intro w';go_simp;with_reducible rfl) (by simp only [Act.put,lA,lZ,lS,iw,jw];rfl) ?_
   refine tS 1 29 z42q13 HT_ hHeld rfl rfl (by kernel_rfl) (by rfl) (by rintro w' ⟨s0,s1,s2⟩;go_simp;with_reducible rfl) (by simp only [Act.put,lA,lZ,lS,iw,jw];rfl) ?_
   refine join_ (σ:=Value × Addr) 4 z42q14 (fun s_=>[(31,s_.1),(33,.int .i64 t155)]) (fun s_ w'=>(w'.cell? ⟨Bi,0,none⟩=some (.slice (some ⟨go16,oo16,none⟩) x145000_1.length co16)∧w'.cell? ⟨Bi,1,none⟩=some (.slice (some ⟨go24,0,none⟩) x145001_1.length co24)∧w'.cell? ⟨Bi,2,none⟩=some (u145002))∧(Kd.R (Kd.int .i64) 3 w' w.heap.size (fun k_=>some k_≠(u145002:Value).ownBlock) s_.1 y152)∧(Kd.Q Kd.bool 4 w' w.heap.size (fun k_=>some k_≠(.slice (some ⟨go24,0,none⟩) x145001_1.length co24:Value).ownBlock) (.slice (some ⟨go16,oo16,none⟩) x145000_1.length co16) y147)∧(Kd.R Kd.bool 4 w' w.heap.size (fun k_=>some k_≠(.slice (some ⟨go16,oo16,none⟩) x145000_1.length co16:Value).ownBlock) (.slice (some ⟨go24,0,none⟩) x145001_1.length co24) y151)∧(Kd.R (Kd.int .i64) 3 w' w.heap.size (fun k_=>some k_≠(s_.1:Value).ownBlock) u145002 x145002_1)∧(∃ c_,(s_.1:Value)=.slice (some s_.2) y152.length c_)∧(w'.heap[Bh]?=some (.cells #[.slice none 0 0,.slice none 0 0,.slice none 0 0] 26 (0,0)))∧(w'.heap[Bi]?=some (.cells #[.slice (some ⟨go16,oo16,none⟩) x145000_1.length co16,.slice (some ⟨go24,0,none⟩) x145001_1.length co24,u145002] 26 (0,0)))∧(IsS60 w0 w' g s0_0 t156)∧(KeepBut w w' g none)∧(Below w0.heap.size w0 w')) ?_ ?_
   rotate_left
   ·intro hCont
    refine two_ (i:=3) (j:=5) (Ni:=some 31) (Nj:=some 33) z42q15 z42q16 rfl rfl rfl rfl (two_of HT_.out (by kernel_rfl)) (by decide) (by decide) (fun K hK=>?_) (fun K hK=>?_)
    ·skip
     refine Kd.R_lit_step (Kd.int .i64) _ 3 ?hg (N:=31) ?hd (xs:=([0,0,1,4]:List Int)) (inner:=[.int .i64 0,.int .i64 0,.int .i64 1,.int .i64 4]) (ok:=fun _=>True) (okp:=fun _=>True) ?hr ?hp (fun _ hk=>hk) trivial (bJ _ _) (nR _) (by simp) ?_;(case hd=>rfl);(case hg=>rfl);(case hr=>first|(go_simp;done)|(go_simp;rfl));(case hp=>exact (Reps.one (show Kd.M (Kd.int .i64) _ _ _ 0 [.int .i64 0] from rfl) (Reps.one (show Kd.M (Kd.int .i64) _ _ _ 0 [.int .i64 0] from rfl) (Reps.one (show Kd.M (Kd.int .i64) _ _ _ 1 [.int .i64 1] from rfl) (Reps.one (show Kd.M (Kd.int .i64) _ _ _ 4 [.int .i64 4] from rfl) (Reps.none _ _))))))
     intro v153 w39 ho40 hb hg_ hnew_
     clear hg_ hnew_
     (first|rw [← Ny152.out] at ho40|(simp only [Int.reduceToNat] at ho40;rw [← Ny152.out] at ho40))
     have n0_:=Am (Kd.Q_below (qL Ba.out) hb)
     have n1_:=Am (rB (rL Bb.out) hb)
     have n2_:=Am (rX (rL Bc.out) (rZ ho40) hb)
     have n3_:=Am (rW (rQ ho40 (rI (rL Bc.out))) (keep_size (w:=w) (g:=g) (row:=none) (by repeat (first|(with_reducible first|exact HK.out|apply KeepBut.set_|apply keep_drewN|apply keep_drew|apply keep_alloc|refine keep_far ?_ Bj.out _|refine keep_far ?_ Bl.out _)|exact HK.out))))
     have n4_:=Am (bX Be.out hb)
     have n5_:=Am (bX Bd.out hb)
     have n6_:=Am (IsS60.below (by repeat (first|(with_reducible first|exact HI0.out|apply IsS60.alloc|apply IsS60.drewN|apply IsS60.drew|apply IsS60.set_1|refine IsS60.far ?_ Bf.out _|refine IsS60.far ?_ Bg.out _)|exact HI0.out)) hb)
     have n7_:=Am (KeepBut.trans (by repeat (first|(with_reducible first|exact HK.out|apply KeepBut.set_|apply keep_drewN|apply keep_drew|apply keep_alloc|refine keep_far ?_ Bj.out _|refine keep_far ?_ Bl.out _)|exact HK.out)) (KeepBut.of_below hb g none) (.inl rfl))
     have n8_:=Am (bP (by repeat (first|(with_reducible first|exact HB.out|apply oA|apply pN|apply o1|refine bS ?_ (IsS60.ge HI0.out)|refine bS ?_ Bk.out|refine bS ?_ Bm.out)|exact HB.out)) hb)
     clear Ba
     clear Bb
     clear Bc
     clear Be
     clear Bd
     clear HI0
     clear HK
     clear HB
     have Ba:=n0_
     have Bb:=n1_
     have Bc:=n2_
     have Bq:=n3_
     have Be:=n4_
     have Bd:=n5_
     have HI0:=n6_
     have HK:=n7_
     have HB:=n8_
     clear n0_ n1_ n2_ n3_ n4_ n5_ n6_ n7_ n8_
     clear hb ho40
     obtain ⟨Ao41,co41,eo41⟩:=rC Bq.out
     subst eo41
     obtain ⟨ado41,fo41,_⟩:=Kd.at_int (rR Bq.out).2.2 0 (by decide) (by rw [Ny152.out];simp)
     cases fo41
     refine hK.out _ _ ⟨(bC Bd.out 0).trans rfl,(bC Bd.out 1).trans rfl,(bC Bd.out 2).trans rfl⟩ (fun hHeld=>?_)
     clear hK K
     refine norm_ (by show Act.put _ (some 31) _=_;simp only [Act.put,lA,lZ,lS,iw,jw];rfl) ?_
     refine oS 5 33 z42q14 HT_ rfl rfl (by kernel_rfl) (by decide) (fun K hK=>?_)
     refine goes_ Try.func45 (by kernel_rfl) rfl #[.pointer (some ⟨g,0,none⟩),.int .i64 4] (by rfl) rfl rfl (by (try simp only [lM,lC,lN]);first|done|rfl|(simp only [lD,lT];rfl)) ?_
     with_reducible refine (spec_l6Rd_pick.calls k1 g s0_0 t150 4 t155 t156 w0 _ ?side1 ?side2 A25.out).mono ?_
     (case side1=>repeat (first|(with_reducible first|exact HI0.out|apply IsS60.alloc|apply IsS60.drewN|apply IsS60.drew|apply IsS60.set_1|refine IsS60.far ?_ Bf.out _|refine IsS60.far ?_ Bg.out _)|exact HI0.out))
     (case side2=>repeat (first|(with_reducible first|exact HB.out|apply oA|apply pN|apply o1|refine bS ?_ (IsS60.ge HI0.out)|refine bS ?_ Bk.out|refine bS ?_ Bm.out)|exact HB.out))
     rintro e w42 ⟨rfl,hi,hb,hk⟩
     refine ⟨_,rfl,?_⟩
     have n0_:=Am (qM (Kd.Q_keep (IsS60.apartQ (show IsS60 w0 _ g s0_0 t150 from by repeat (first|(with_reducible first|exact HI0.out|apply IsS60.alloc|apply IsS60.drewN|apply IsS60.drew|apply IsS60.set_1|refine IsS60.far ?_ Bf.out _|refine IsS60.far ?_ Bg.out _)|exact HI0.out)) (qL Ba.out) (by decide)) hk (fun _ h=>h.2)) (fun _ h=>h.1))
     have n1_:=Am (rM (Kd.R_keep (IsS60.apart (show IsS60 w0 _ g s0_0 t150 from by repeat (first|(with_reducible first|exact HI0.out|apply IsS60.alloc|apply IsS60.drewN|apply IsS60.drew|apply IsS60.set_1|refine IsS60.far ?_ Bf.out _|refine IsS60.far ?_ Bg.out _)|exact HI0.out)) (rL Bb.out) (by decide)) hk (fun _ h=>h.2)) (fun _ h=>h.1))
     have n2_:=Am (rM (Kd.R_keep (IsS60.apart (show IsS60 w0 _ g s0_0 t150 from by repeat (first|(with_reducible first|exact HI0.out|apply IsS60.alloc|apply IsS60.drewN|apply IsS60.drew|apply IsS60.set_1|refine IsS60.far ?_ Bf.out _|refine IsS60.far ?_ Bg.out _)|exact HI0.out)) (rL Bc.out) (by decide)) hk (fun _ h=>h.2)) (fun _ h=>h.1))
     have n3_:=Am (KeepBut.blk hk (g':=Bh) (o:=.cells #[.slice none 0 0,.slice none 0 0,.slice none 0 0] 26 (0,0)) (bL Be.out) Bo.out (by simp))
     have n4_:=Am (KeepBut.blk hk (g':=Bi) (o:=.cells #[.slice (some ⟨go16,oo16,none⟩) x145000_1.length co16,.slice (some ⟨go24,0,none⟩) x145001_1.length co24,u145002] 26 (0,0)) (bL Bd.out) Bn.out (by simp))
     have n5_:=Am (rM (Kd.R_keep (IsS60.apart (show IsS60 w0 _ g s0_0 t150 from by repeat (first|(with_reducible first|exact HI0.out|apply IsS60.alloc|apply IsS60.drewN|apply IsS60.drew|apply IsS60.set_1|refine IsS60.far ?_ Bf.out _|refine IsS60.far ?_ Bg.out _)|exact HI0.out)) (rL Bq.out) (by decide)) hk (fun _ h=>h.2)) (fun _ h=>h.1))
     have n6_:=Am (KeepBut.trans (by repeat (first|(with_reducible first|exact HK.out|apply KeepBut.set_|apply keep_drewN|apply keep_drew|apply keep_alloc|refine keep_far ?_ Bj.out _|refine keep_far ?_ Bl.out _)|exact HK.out)) hk (.inl rfl))
     have n7_:=Am (hb)
     have n8_:=Am (hi)
     clear Ba
     clear Bb
     clear Bc
     clear Be
     clear Bd
     clear Bq
     clear HK
     clear HB
     clear HI0
     have Ba:=n0_
     have Bb:=n1_
     have Bc:=n2_
     have Be:=n3_
     have Bd:=n4_
     have Bq:=n5_
     have HK:=n6_
     have HB:=n7_
     have HI0:=n8_
     clear n0_ n1_ n2_ n3_ n4_ n5_ n6_ n7_ n8_
     (try clear hb)
     (try clear hb2)
     (try clear hk)
     (try clear hi)
     refine hK.out _ _ ⟨(bC Bd.out 0).trans rfl,(bC Bd.out 1).trans rfl,(bC Bd.out 2).trans rfl⟩ (fun hHeld=>?_)
     clear hK K
     refine norm_ (by show Act.put _ (some 33) _=_;simp only [Act.put,lA,lZ,lS,iw,jw];rfl) ?_
     exact norm_ (by simp only [putAll,Act.put,lA,lZ,lS]) (hCont (.slice (some ado41) y152.length co41,ado41) _ ⟨hHeld,(by (with_reducible repeat (first|apply rA|apply rN|apply rD));exact rM Bq.out (fun _ hk=>hk.2)),(qL Ba.out),(rL Bb.out),(by (with_reducible repeat (first|apply rA|apply rN|apply rD));exact rM Bc.out (fun _ hk=>hk.2)),⟨_,rfl⟩,(bL Be.out),(bL Bd.out),(by repeat (first|(with_reducible first|exact HI0.out|apply IsS60.alloc|apply IsS60.drewN|apply IsS60.drew|apply IsS60.set_1|refine IsS60.far ?_ Bf.out _|refine IsS60.far ?_ Bg.out _)|exact HI0.out)),(by repeat (first|(with_reducible first|exact HK.out|apply KeepBut.set_|apply keep_drewN|apply keep_drew|apply keep_alloc|refine keep_far ?_ Bj.out _|refine keep_far ?_ Bl.out _)|exact HK.out)),(by repeat (first|(with_reducible first|exact HB.out|apply oA|apply pN|apply o1|refine bS ?_ (IsS60.ge HI0.out)|refine bS ?_ Bk.out|refine bS ?_ Bm.out)|exact HB.out))⟩)
    ·skip
     refine goes_ Try.func45 (by kernel_rfl) rfl #[.pointer (some ⟨g,0,none⟩),.int .i64 4] (by rfl) rfl rfl (by (try simp only [lM,lC,lN]);first|done|rfl|(simp only [lD,lT];rfl)) ?_
     with_reducible refine (spec_l6Rd_pick.calls k1 g s0_0 t150 4 t155 t156 w0 _ ?side1 ?side2 A25.out).mono ?_
     (case side1=>repeat (first|(with_reducible first|exact HI0.out|apply IsS60.alloc|apply IsS60.drewN|apply IsS60.drew|apply IsS60.set_1|refine IsS60.far ?_ Bf.out _|refine IsS60.far ?_ Bg.out _)|exact HI0.out))
     (case side2=>repeat (first|(with_reducible first|exact HB.out|apply oA|apply pN|apply o1|refine bS ?_ (IsS60.ge HI0.out)|refine bS ?_ Bk.out|refine bS ?_ Bm.out)|exact HB.out))
     rintro e w39 ⟨rfl,hi,hb,hk⟩
     refine ⟨_,rfl,?_⟩
     have n0_:=Am (qM (Kd.Q_keep (IsS60.apartQ (show IsS60 w0 _ g s0_0 t150 from by repeat (first|(with_reducible first|exact HI0.out|apply IsS60.alloc|apply IsS60.drewN|apply IsS60.drew|apply IsS60.set_1|refine IsS60.far ?_ Bf.out _|refine IsS60.far ?_ Bg.out _)|exact HI0.out)) (qL Ba.out) (by decide)) hk (fun _ h=>h.2)) (fun _ h=>h.1))
     have n1_:=Am (rM (Kd.R_keep (IsS60.apart (show IsS60 w0 _ g s0_0 t150 from by repeat (first|(with_reducible first|exact HI0.out|apply IsS60.alloc|apply IsS60.drewN|apply IsS60.drew|apply IsS60.set_1|refine IsS60.far ?_ Bf.out _|refine IsS60.far ?_ Bg.out _)|exact HI0.out)) (rL Bb.out) (by decide)) hk (fun _ h=>h.2)) (fun _ h=>h.1))
     have n2_:=Am (rM (Kd.R_keep (IsS60.apart (show IsS60 w0 _ g s0_0 t150 from by repeat (first|(with_reducible first|exact HI0.out|apply IsS60.alloc|apply IsS60.drewN|apply IsS60.drew|apply IsS60.set_1|refine IsS60.far ?_ Bf.out _|refine IsS60.far ?_ Bg.out _)|exact HI0.out)) (rL Bc.out) (by decide)) hk (fun _ h=>h.2)) (fun _ h=>h.1))
     have n3_:=Am (KeepBut.blk hk (g':=Bh) (o:=.cells #[.slice none 0 0,.slice none 0 0,.slice none 0 0] 26 (0,0)) (bL Be.out) Bo.out (by simp))
     have n4_:=Am (KeepBut.blk hk (g':=Bi) (o:=.cells #[.slice (some ⟨go16,oo16,none⟩) x145000_1.length co16,.slice (some ⟨go24,0,none⟩) x145001_1.length co24,u145002] 26 (0,0)) (bL Bd.out) Bn.out (by simp))
     have n5_:=Am (KeepBut.trans (by repeat (first|(with_reducible first|exact HK.out|apply KeepBut.set_|apply keep_drewN|apply keep_drew|apply keep_alloc|refine keep_far ?_ Bj.out _|refine keep_far ?_ Bl.out _)|exact HK.out)) hk (.inl rfl))
     have n6_:=Am (hb)
     have n7_:=Am (hi)
     clear Ba
     clear Bb
     clear Bc
     clear Be
     clear Bd
     clear HK
     clear HB
     clear HI0
     have Ba:=n0_
     have Bb:=n1_
     have Bc:=n2_
     have Be:=n3_
     have Bd:=n4_
     have HK:=n5_
     have HB:=n6_
     have HI0:=n7_
     clear n0_ n1_ n2_ n3_ n4_ n5_ n6_ n7_
     (try clear hb)
     (try clear hb2)
     (try clear hk)
     (try clear hi)
     refine hK.out _ _ ⟨(bC Bd.out 0).trans rfl,(bC Bd.out 1).trans rfl,(bC Bd.out 2).trans rfl⟩ (fun hHeld=>?_)
     clear hK K
     refine norm_ (by show Act.put _ (some 33) _=_;simp only [Act.put,lA,lZ,lS,iw,jw];rfl) ?_
     refine oS 3 31 z42q14 HT_ rfl rfl (by kernel_rfl) (by decide) (fun K hK=>?_)
     refine Kd.R_lit_step (Kd.int .i64) _ 3 ?hg (N:=31) ?hd (xs:=([0,0,1,4]:List Int)) (inner:=[.int .i64 0,.int .i64 0,.int .i64 1,.int .i64 4]) (ok:=fun _=>True) (okp:=fun _=>True) ?hr ?hp (fun _ hk=>hk) trivial (bJ _ _) (nR _) (by simp) ?_;(case hd=>rfl);(case hg=>rfl);(case hr=>first|(go_simp;done)|(go_simp;rfl));(case hp=>exact (Reps.one (show Kd.M (Kd.int .i64) _ _ _ 0 [.int .i64 0] from rfl) (Reps.one (show Kd.M (Kd.int .i64) _ _ _ 0 [.int .i64 0] from rfl) (Reps.one (show Kd.M (Kd.int .i64) _ _ _ 1 [.int .i64 1] from rfl) (Reps.one (show Kd.M (Kd.int .i64) _ _ _ 4 [.int .i64 4] from rfl) (Reps.none _ _))))))
     intro v153 w40 ho41 hb hg_ hnew_
     clear hg_ hnew_
     (first|rw [← Ny152.out] at ho41|(simp only [Int.reduceToNat] at ho41;rw [← Ny152.out] at ho41))
     have n0_:=Am (Kd.Q_below (qL Ba.out) hb)
     have n1_:=Am (rB (rL Bb.out) hb)
     have n2_:=Am (rX (rL Bc.out) (rZ ho41) hb)
     have n3_:=Am (rW (rQ ho41 (rI (rL Bc.out))) (keep_size (w:=w) (g:=g) (row:=none) (by repeat (first|(with_reducible first|exact HK.out|apply KeepBut.set_|apply keep_drewN|apply keep_drew|apply keep_alloc|refine keep_far ?_ Bj.out _|refine keep_far ?_ Bl.out _)|exact HK.out))))
     have n4_:=Am (bX Be.out hb)
     have n5_:=Am (bX Bd.out hb)
     have n6_:=Am (IsS60.below (by repeat (first|(with_reducible first|exact HI0.out|apply IsS60.alloc|apply IsS60.drewN|apply IsS60.drew|apply IsS60.set_1|refine IsS60.far ?_ Bf.out _|refine IsS60.far ?_ Bg.out _)|exact HI0.out)) hb)
     have n7_:=Am (KeepBut.trans (by repeat (first|(with_reducible first|exact HK.out|apply KeepBut.set_|apply keep_drewN|apply keep_drew|apply keep_alloc|refine keep_far ?_ Bj.out _|refine keep_far ?_ Bl.out _)|exact HK.out)) (KeepBut.of_below hb g none) (.inl rfl))
     have n8_:=Am (bP (by repeat (first|(with_reducible first|exact HB.out|apply oA|apply pN|apply o1|refine bS ?_ (IsS60.ge HI0.out)|refine bS ?_ Bk.out|refine bS ?_ Bm.out)|exact HB.out)) hb)
     clear Ba
     clear Bb
     clear Bc
     clear Be
     clear Bd
     clear HI0
     clear HK
     clear HB
     have Ba:=n0_
     have Bb:=n1_
     have Bc:=n2_
     have Bq:=n3_
     have Be:=n4_
     have Bd:=n5_
     have HI0:=n6_
     have HK:=n7_
     have HB:=n8_
     clear n0_ n1_ n2_ n3_ n4_ n5_ n6_ n7_ n8_
     clear hb ho41
     obtain ⟨Ao42,co42,eo42⟩:=rC Bq.out
     subst eo42
     obtain ⟨ado42,fo42,_⟩:=Kd.at_int (rR Bq.out).2.2 0 (by decide) (by rw [Ny152.out];simp)
     cases fo42
     refine hK.out _ _ ⟨(bC Bd.out 0).trans rfl,(bC Bd.out 1).trans rfl,(bC Bd.out 2).trans rfl⟩ (fun hHeld=>?_)
     clear hK K
     refine norm_ (by show Act.put _ (some 31) _=_;simp only [Act.put,lA,lZ,lS,iw,jw];rfl) ?_
     exact norm_ (by simp only [putAll,Act.put,lA,lZ,lS]) (hCont (.slice (some ado42) y152.length co42,ado42) _ ⟨hHeld,(by (with_reducible repeat (first|apply rA|apply rN|apply rD));exact rM Bq.out (fun _ hk=>hk.2)),(qL Ba.out),(rL Bb.out),(by (with_reducible repeat (first|apply rA|apply rN|apply rD));exact rM Bc.out (fun _ hk=>hk.2)),⟨_,rfl⟩,(bL Be.out),(bL Bd.out),(by repeat (first|(with_reducible first|exact HI0.out|apply IsS60.alloc|apply IsS60.drewN|apply IsS60.drew|apply IsS60.set_1|refine IsS60.far ?_ Bf.out _|refine IsS60.far ?_ Bg.out _)|exact HI0.out)),(by repeat (first|(with_reducible first|exact HK.out|apply KeepBut.set_|apply keep_drewN|apply keep_drew|apply keep_alloc|refine keep_far ?_ Bj.out _|refine keep_far ?_ Bl.out _)|exact HK.out)),(by repeat (first|(with_reducible first|exact HB.out|apply oA|apply pN|apply o1|refine bS ?_ (IsS60.ge HI0.out)|refine bS ?_ Bk.out|refine bS ?_ Bm.out)|exact HB.out))⟩)
   rintro ⟨v153,adz_v153⟩ w43 ⟨hS_,h0_,h1_,h2_,h3_,h4_,h5_,h6_,h7_,h8_,h9_⟩
   have n0_:Aside0 (Kd.R (Kd.int .i64) 3 w43 w.heap.size (fun k_=>some k_≠(u145002:Value).ownBlock) v153 y152):=⟨h0_⟩
   have n1_:Aside0 (Kd.Q Kd.bool 4 w43 w.heap.size (fun k_=>some k_≠(.slice (some ⟨go24,0,none⟩) x145001_1.length co24:Value).ownBlock) (.slice (some ⟨go16,oo16,none⟩) x145000_1.length co16) y147):=⟨h1_⟩
   have n2_:Aside0 (Kd.R Kd.bool 4 w43 w.heap.size (fun k_=>some k_≠(.slice (some ⟨go16,oo16,none⟩) x145000_1.length co16:Value).ownBlock) (.slice (some ⟨go24,0,none⟩) x145001_1.length co24) y151):=⟨h2_⟩
   have n3_:Aside0 (Kd.R (Kd.int .i64) 3 w43 w.heap.size (fun k_=>some k_≠(v153:Value).ownBlock) u145002 x145002_1):=⟨h3_⟩
   have n4_:Aside0 (∃ c_,(v153:Value)=.slice (some adz_v153) y152.length c_):=⟨h4_⟩
   have n5_:Aside0 (w43.heap[Bh]?=some (.cells #[.slice none 0 0,.slice none 0 0,.slice none 0 0] 26 (0,0))):=⟨h5_⟩
   have n6_:Aside0 (w43.heap[Bi]?=some (.cells #[.slice (some ⟨go16,oo16,none⟩) x145000_1.length co16,.slice (some ⟨go24,0,none⟩) x145001_1.length co24,u145002] 26 (0,0))):=⟨h6_⟩
   have n7_:Aside0 (IsS60 w0 w43 g s0_0 t156):=⟨h7_⟩
   have n8_:Aside0 (KeepBut w w43 g none):=⟨h8_⟩
   have n9_:Aside0 (Below w0.heap.size w0 w43):=⟨h9_⟩
   clear Ba
   clear Bb
   clear Bc
   clear Be
   clear Bd
   clear HI0
   clear HK
   clear HB
   clear h0_ h1_ h2_ h3_ h4_ h5_ h6_ h7_ h8_ h9_
   have Bq:=n0_
   have Ba:=n1_
   have Bb:=n2_
   have Bc:=n3_
   have HA_HO154:=n4_
   have Be:=n5_
   have Bd:=n6_
   have HI0:=n7_
   have HK:=n8_
   have HB:=n9_
   clear n0_ n1_ n2_ n3_ n4_ n5_ n6_ n7_ n8_ n9_
   have hHeld:w43.cell? ⟨Bi,0,none⟩=some (.slice (some ⟨go16,oo16,none⟩) x145000_1.length co16)∧w43.cell? ⟨Bi,1,none⟩=some (.slice (some ⟨go24,0,none⟩) x145001_1.length co24)∧w43.cell? ⟨Bi,2,none⟩=some (u145002):=hS_
   obtain ⟨co44,eo44⟩:=HA_HO154.out
   clear HA_HO154
   subst eo44
   have p29:0≤(x4_1:Int):=oE (by first|(with_reducible assumption)|assumption)
   have q29:(x4_1:Int)<((x145002_1.length:Int):Int):=oE (by first|(with_reducible assumption)|assumption)
   obtain ⟨go29,co29,eo29,BD,gl29,cl29,HG29⟩:=Kd.R_form Bc.out (by omega)
   (first|cases eo29|(injection eo29 with ea_ en_ ec_;(first|subst ea_|(injection ea_ with ea_;subst ea_));subst ec_;clear en_))
   have GB29:=Am BD
   have GG29:=Am HG29
   clear BD gl29 HG29
   obtain ⟨hx29_0,hf29_0⟩:=Kd.R_celln 0 Bc.out (x4_1:Int) p29 q29
   replace p29:=eq_true p29
   replace q29:=eq_true q29
   have HN0_go29:=Am (show g≠go29 from by have h_:=IsS60.own_ne HI0.out Bc.out (by decide);intro e_;exact h_ (by rw [e_];rfl))
   have HP45:=Kd.R_putn Bc.out (x4_1:Int) (rd y152 t155)
   rw [← Ny158.out] at HP45
   have HQ45:=Am HP45
   clear HP45
   refine norm_ (by simp only [putAll,Act.put,lA,lZ,lS];rfl) ?_
   refine pS 6 34 z42q17 HT_ rfl rfl (by kernel_rfl) (by rfl) (by intro w';go_simp;with_reducible rfl) (by simp only [Act.put,lA,lZ,lS,iw,jw];rfl) ?_
   refine oS 7 35 z42q18 HT_ rfl rfl (by kernel_rfl) (by decide) (fun K hK=>?_)
   (have p157:0≤(t155:Int):=oE (by first|(with_reducible assumption)|assumption);have q157:t155<(y152.length:Int):=oE (by first|(with_reducible assumption)|assumption);obtain ⟨ad157,e157,hx157_0⟩:=Kd.at_int (rR Bq.out).2.2 t155 p157 q157;obtain rfl:adz_v153=ad157:=(by injection e157))
   refine value_ (w1:=?_) (v:=?_) (by rfl) rfl ?_ ?_
   rotate_left 2
   ·go_simp
    constructor
    ·rfl
    ·rfl
   clear hx157_0
   refine hK.out _ _ ⟨(bC Bd.out 0).trans rfl,(bC Bd.out 1).trans rfl,(bC Bd.out 2).trans rfl⟩ (fun hHeld=>?_)
   clear hK K
   refine norm_ (by show Act.put _ (some 35) _=_;simp only [Act.put,lA,lZ,lS,iw,jw];rfl) ?_
   refine pS 8 36 z42q19 HT_ rfl rfl (by kernel_rfl) (by rfl) (by intro w';go_simp;with_reducible rfl) (by simp only [Act.put,lA,lZ,lS,iw,jw];rfl) ?_
   refine last_ (i:=9) (N:=none) z42q20 rfl rfl (one_of HT_.out (by kernel_rfl)) (by decide) (fun K hK=>?_)
   refine skip_ (w1:=?_) (by rfl) rfl ?_ ?_
   rotate_left;(go_simp;rfl)
   refine hK.out _ _ ?_
   clear hK K
   refine done_ (done_of HT_.out (by kernel_rfl)) ?_
   try go_wp2
   go_roundg k1
   case measure=>have:=HK1.out;omega
   case rel=>exact ⟨(wrap64 (x4_1 + 1)),(t156),(y147),(y151),(y158),(.slice (some ⟨go16,oo16,none⟩) x145000_1.length co16),(.slice (some ⟨go24,0,none⟩) x145001_1.length co24),(.slice (some ⟨go29,0,none⟩) x145002_1.length co29),(by first|rfl|(simp;done)|(simp [*];done)),H',⟨by have:=HK1.out;omega⟩,⟨by (with_reducible repeat (first|apply Kd.Q_alloc|apply Kd.Q_drewN|apply Kd.Q_drew));exact qM (Kd.Q_far (p:=⟨go29,(x4_1:Int).toNat,none⟩) (Kd.Q_types Ba.out GG29.out (by decide)) (fun _ hk=>hk.2) (.int .i64 (rd y152 t155))) (fun _ hk=>hk.1)⟩,⟨by (with_reducible repeat (first|apply rA|apply rN|apply rD));exact rM (rF (p:=⟨go29,(x4_1:Int).toNat,none⟩) (rT Bb.out GG29.out (by decide)) (fun _ hk=>hk.2) (.int .i64 (rd y152 t155))) (fun _ hk=>hk.1)⟩,⟨by (with_reducible repeat (first|apply rA|apply rN|apply rD));exact rM HQ45.out (fun _ hk=>trivial)⟩,⟨by (with_reducible repeat (first|refine bN ?_ _|refine bD ?_|refine bA ?_ _));refine bE ?_ (by have h_:=rE Bc.out Be.out (by decide);intro e_;exact h_ (by rw [e_];rfl)) _;(with_reducible repeat (first|refine bN ?_ _|refine bD ?_|refine bA ?_ _));exact Be.out⟩,⟨by (with_reducible repeat (first|refine bN ?_ _|refine bD ?_|refine bA ?_ _));refine bE ?_ (by have h_:=rE Bc.out Bd.out (by decide);intro e_;exact h_ (by rw [e_];rfl)) _;(with_reducible repeat (first|refine bN ?_ _|refine bD ?_|refine bA ?_ _));exact Bd.out⟩,⟨by repeat (first|(with_reducible first|exact HI0.out|apply IsS60.alloc|apply IsS60.drewN|apply IsS60.drew|apply IsS60.set_1|refine IsS60.far ?_ HN0_go29.out _|refine IsS60.far ?_ Bf.out _|refine IsS60.far ?_ Bg.out _)|exact HI0.out)⟩,⟨by repeat (first|(with_reducible first|exact HK.out|apply KeepBut.set_|apply keep_drewN|apply keep_drew|apply keep_alloc|refine keep_far ?_ GB29.out _|refine keep_far ?_ Bj.out _|refine keep_far ?_ Bl.out _)|exact HK.out)⟩,⟨by repeat (first|(with_reducible first|exact HB.out|apply oA|apply pN|apply o1|refine bS ?_ (Nat.le_trans HL.out GB29.out)|refine bS ?_ (IsS60.ge HI0.out)|refine bS ?_ Bk.out|refine bS ?_ Bm.out)|exact HB.out)⟩⟩
end Go.Proofs.Ytiifanjjohophaa.PFnSigsRun
