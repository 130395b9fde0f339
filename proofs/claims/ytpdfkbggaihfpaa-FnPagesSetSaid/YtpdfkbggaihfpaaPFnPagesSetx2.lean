/- Proved here, without a condition beyond those that each theorem states: what the Go functions named below do is what the plain functions of the same names say. Written by xprint.py, a program of this session. -/
import Derived.Test.YtpdfkbggaihfpaaPFnPagesSetx0
import Derived.Test.YtpdfkbggaihfpaaPFnPagesSetx1
namespace Go.Proofs.Ytpdfkbggaihfpaa.PFnPagesSet
open Go.RowKit Go.Proofs.YtpdfkbggaihfpaaW.PrintWords Go.Proofs.YtpdfkbggaihfpaaW.PrintLast Go.Proofs.YtpdfkbggaihfpaaW.PrintMore
attribute [local go_sem] max2_int min2_int max_two min_two max_three min_three max_four min_four   -- for this text's walks alone
set_option linter.unusedVariables false
set_option linter.unusedSimpArgs false

attribute [local go_sem ↓] isSome_setCell_
/-! ### spec_l1Used: function 50 -/
def spec_l1Used.f (l0_0 : List ByteArray) (l0_1 : List Int) (a1 : Int) : Option (Bool) := (spec_l6In.f a1 0 (wrap64 ((l0_1.length : Int) - 1))).bind fun t108 => (if t108 = true then (if 0 ≤ a1 then (if a1 < (l0_1.length : Int) then (some (decide ((rd l0_1 a1) > 0))) else (none)) else (none)) else (some false))
set_option maxHeartbeats 2000000 in
set_option maxRecDepth 100000 in
theorem spec_l1Used.calls (A0_0:Option Addr) (c0_0:Nat) (l0_0:List ByteArray) (A0_1:Option Addr) (c0_1:Nat) (l0_1:List Int) (a1:Int) (r:Bool) (w:World) (hr0_0:Kd.C Kd.string w A0_0 l0_0.length l0_0) (hc0_0:l0_0.length≤c0_0) (hr0_1:Kd.C (Kd.int .i64) w A0_1 l0_1.length l0_1) (hc0_1:l0_1.length≤c0_1) (h:spec_l1Used.f l0_0 l0_1 a1=some r) :
  Calls Try.prog 50 #[.agg #[.slice A0_0 l0_0.length c0_0,.slice A0_1 l0_1.length c0_1],.int .i64 a1] w fun e w'=>e=.returned (.bool r)∧Below w.heap.size w w':=by
 have hu26:=Try.underlying26
 have HR0_0:=Am hr0_0
 have HC0_0:=Am hc0_0
 clear hr0_0 hc0_0
 have HR0_1:=Am hr0_1
 have HC0_1:=Am hc0_1
 clear hr0_1 hc0_1
 have HB:=Am (bJ w.heap.size w)
 have H:((spec_l6In.f a1 0 (wrap64 ((l0_1.length:Int) - 1))).bind fun t108=>(if t108=true then (if 0≤a1 then (if a1<(l0_1.length:Int) then (some (decide ((rd l0_1 a1) > 0))) else (none)) else (none)) else (some false)))=some r:=h
 clear h
 replace H:=oC H
 obtain ⟨t108,A30,H⟩:=H
 replace H:(if t108=true then (if 0≤a1 then (if a1<(l0_1.length:Int) then (some (decide ((rd l0_1 a1) > 0))) else (none)) else (none)) else (some false))=some r:=H
 have A3:=Am A30
 clear A30
 by_cases c4:t108=true
 rotate_left
 ·replace c4:=Bool.eq_false_iff.mpr c4
  subst c4
  have H1:(some false)=some r:=by rw [if_neg (show ¬ (false=true) by decide)] at H;exact H
  clear H
  have H:=H1
  clear H1
  obtain rfl:=oJ H
  go_enter Try.func50,Try.ntmps50
  go_wp2_with (first|((with_reducible refine gD (N:=2) rfl ?_);refine bI ?hg (N:=2) ?hd (cs:=#[.slice A0_0 l0_0.length c0_0,.slice A0_1 l0_1.length c0_1]) (t:=26) ?hr ?_;(case hd=>rfl);(case hg=>rfl);(case hr=>first|(go_simp;done)|(go_simp;rfl));intro Ba hg w9 hbox hb;have n0_:=Am (bP (by repeat (first|(with_reducible first|exact HB.out|apply oA|apply pN|apply o1)|exact HB.out)) hb);have n1_:=Am (hbox);have n2_:=Am ((by rw [hg];exact (bZ (by repeat (first|(with_reducible first|exact HB.out|apply oA|apply pN|apply o1)|exact HB.out))):w.heap.size≤Ba));have n3_:=Am ((by rw [hg];exact (bZ (by repeat (first|(with_reducible first|exact HB.out|apply oA|apply pN|apply o1)|exact HB.out))):w.heap.size≤Ba));clear HB;revert n0_ n1_ n2_ n3_;intro HB Bb Bd Bc;clear hb hbox hg;have Be:=cz0 Bb.out;have Bf:=cz1 Bb.out;have Bg:=bF Bb.out 0;have Bh:=bF Bb.out 1)|((with_reducible refine gC (f:=51) rfl ?_);refine goesL_ (some 10) rfl rfl Try.func51 (by kernel_rfl) rfl #[.int .i64 a1,.int .i64 0,.int .i64 (wrap64 ((l0_1.length:Int) - 1))] rfl (by (try simp only [lM,lC,lN]);first|done|rfl|(simp only [lD,lT];rfl)) ?_;(with_reducible refine (spec_l6In.calls a1 0 (wrap64 ((l0_1.length:Int) - 1)) false _ A3.out).mono ?_);rintro e w' ⟨rfl,⟨nd,rfl⟩⟩;refine ⟨_,rfl,?_⟩))
  go_ret
  exact ⟨by first|rfl|(simp [errW_none,errW_some] <;> rfl)|(simp [*,errW_none,errW_some] <;> rfl),by repeat (first|(with_reducible first|exact HB.out|apply oA|apply pN|apply o1|refine bS ?_ Bc.out)|exact HB.out)⟩


 subst c4
 have H1:(if 0≤a1 then (if a1<(l0_1.length:Int) then (some (decide ((rd l0_1 a1) > 0))) else (none)) else (none))=some r:=by rw [if_pos rfl] at H;exact H
 clear H
 have H:=H1
 clear H1
 by_cases c5:0≤a1
 rotate_left
 ·rw [if_neg c5] at H
  exact absurd H (by simp)
 rw [if_pos c5] at H
 have c5b0:decide (0≤a1)=true:=dT c5
 clear c5
 by_cases c6:a1<(l0_1.length:Int)
 rotate_left
 ·rw [if_neg c6] at H
  exact absurd H (by simp)
 rw [if_pos c6] at H
 have c6b0:decide (a1<(l0_1.length:Int))=true:=dT c6
 clear c6
 obtain rfl:=oJ H
 go_enter Try.func50,Try.ntmps50
 go_wp2_with (first|((with_reducible refine gD (N:=2) rfl ?_);refine bI ?hg (N:=2) ?hd (cs:=#[.slice A0_0 l0_0.length c0_0,.slice A0_1 l0_1.length c0_1]) (t:=26) ?hr ?_;(case hd=>rfl);(case hg=>rfl);(case hr=>first|(go_simp;done)|(go_simp;rfl));intro Ba hg w7 hbox hb;have n0_:=Am (bP (by repeat (first|(with_reducible first|exact HB.out|apply oA|apply pN|apply o1)|exact HB.out)) hb);have n1_:=Am (hbox);have n2_:=Am ((by rw [hg];exact (bZ (by repeat (first|(with_reducible first|exact HB.out|apply oA|apply pN|apply o1)|exact HB.out))):w.heap.size≤Ba));have n3_:=Am ((by rw [hg];exact (bZ (by repeat (first|(with_reducible first|exact HB.out|apply oA|apply pN|apply o1)|exact HB.out))):w.heap.size≤Ba));clear HB;revert n0_ n1_ n2_ n3_;intro HB Bb Bd Bc;clear hb hbox hg;have Bi:=cz0 Bb.out;have Bj:=cz1 Bb.out;have Bk:=bF Bb.out 0;have Bl:=bF Bb.out 1)|((with_reducible refine gC (f:=51) rfl ?_);refine goesL_ (some 10) rfl rfl Try.func51 (by kernel_rfl) rfl #[.int .i64 a1,.int .i64 0,.int .i64 (wrap64 ((l0_1.length:Int) - 1))] rfl (by (try simp only [lM,lC,lN]);first|done|rfl|(simp only [lD,lT];rfl)) ?_;(with_reducible refine (spec_l6In.calls a1 0 (wrap64 ((l0_1.length:Int) - 1)) true _ A3.out).mono ?_);rintro e w' ⟨rfl,⟨nd,rfl⟩⟩;refine ⟨_,rfl,?_⟩;have p109:0≤(a1:Int):=oE (by first|(with_reducible assumption)|assumption);have q109:a1<(l0_1.length:Int):=oE (by first|(with_reducible assumption)|assumption);obtain ⟨ad109,e109,hx109_0⟩:=Kd.at_int HR0_1.out a1 p109 q109;cases e109;replace hx109_0:=(HB.out.cell (World.block_lt_of_cell? w _ hx109_0)).trans hx109_0;replace p109:=eq_true p109;replace q109:=eq_true q109))
 go_ret
 exact ⟨by first|rfl|(simp [errW_none,errW_some] <;> rfl)|(simp [*,errW_none,errW_some] <;> rfl),by repeat (first|(with_reducible first|exact HB.out|apply oA|apply pN|apply o1|refine bS ?_ Bc.out)|exact HB.out)⟩/-! ### spec_l91Page: function 58 -/
def spec_l91Page.l0 : Nat → List Int → Int → List Int → Int → Option (ByteArray × Int)
|0, _, _, _, _ => none
|k + 1, x3, x4, x1000, x1001 => if x4 < 4 then ((spec_l6Rd_pick.f k x1000 x1001 4).bind fun bt113 => ((spec_l6Rd_pick.f k x1000 bt113.2 90).bind fun bt115 => (if x3.length < 140737488355328 then (spec_l91Page.l0 k (x3 ++ [(wrap64 (bt113.1 * bt115.1)) % 256]) (wrap64 (x4 + 1)) x1000 bt115.2) else (none)))) else (some (strOfNums x3, x1001))
def spec_l91Page.f (k : Nat) (s0_0 : List Int) (s0_1 : Int) : Option (ByteArray × Int) := spec_l91Page.l0 k (([] : List Int)) 0 s0_0 s0_1
theorem spec_l91Page.mono_l : ∀ k, (∀ y0 y1 y2 y3, LeO (spec_l91Page.l0 k y0 y1 y2 y3) (spec_l91Page.l0 (k + 1) y0 y1 y2 y3))
|0 => fun _ _ _ _ r h => by simp [spec_l91Page.l0] at h
|k + 1 => by
  have ih0 := spec_l91Page.mono_l k
  ·intro y0 y1 y2 y3
   unfold spec_l91Page.l0
   repeat' first
  |(with_reducible exact ih0 _ _ _ _)
  |(with_reducible exact spec_l6Rd_pick.mono _ _ _ _)
  |(with_reducible exact LeO.refl _)
  |(with_reducible exact LeO.none _)
  |(with_reducible refine LeO.ite ?_ ?_)
  |(with_reducible refine LeO.bind ?_ (fun _ => ?_))
  |exact ih0 _ _ _ _
  |exact spec_l6Rd_pick.mono _ _ _ _
  |exact LeO.none _
  |refine LeO.ite ?_ ?_
  |refine LeO.bind ?_ (fun _ => ?_)
theorem spec_l91Page.mono : ∀ a0 a1 k, LeO (spec_l91Page.f k a0 a1) (spec_l91Page.f (k + 1) a0 a1) := by
 intro a0 a1 k
 have ih0 := spec_l91Page.mono_l k
 unfold spec_l91Page.f
 repeat' first
  |(with_reducible exact ih0 _ _ _ _)
  |(with_reducible exact spec_l6Rd_pick.mono _ _ _ _)
  |(with_reducible exact LeO.refl _)
  |(with_reducible exact LeO.none _)
  |(with_reducible refine LeO.ite ?_ ?_)
  |(with_reducible refine LeO.bind ?_ (fun _ => ?_))
  |exact ih0 _ _ _ _
  |exact spec_l6Rd_pick.mono _ _ _ _
  |exact LeO.none _
  |refine LeO.ite ?_ ?_
  |refine LeO.bind ?_ (fun _ => ?_)
set_option maxHeartbeats 2000000 in
set_option maxRecDepth 100000 in
theorem spec_l91Page.calls (k:Nat) (g:Nat) (s0_0:List Int) (s0_1:Int) (r1:ByteArray) (r2:Int) (w0 w:World) (hI:IsS83 w0 w g s0_0 s0_1) (hB:Below w0.heap.size w0 w) (h:spec_l91Page.f k s0_0 s0_1=some (r1,r2)) :
  Calls Try.prog 58 #[.pointer (some ⟨g,0,none⟩)] w fun e w'=>e=.returned (.string r1)∧IsS83 w0 w' g s0_0 r2∧Below w0.heap.size w0 w'∧KeepBut w w' g none:=by
 have HI0:=Am hI
 have HK:=Am (KeepBut.refl w g none)
 have HL:=Am hB.size
 clear hI
 have HW0:=Am hB.size
 have HB:=Am hB
 clear hB
 have H:(spec_l91Page.l0 k (([]:List Int)) 0 s0_0 s0_1)=some (r1,r2):=h
 clear h
 obtain ⟨y110,hy110⟩:∃ y_:List Int,y_=(([]:List Int)):=⟨_,rfl⟩
 replace H:(spec_l91Page.l0 k y110 0 s0_0 s0_1)=some (r1,r2):=by first|(rw [hy110];with_reducible exact H)|(have H2_:=(Option.bind_some _ _).symm.trans H;rw [hy110];with_reducible exact H2_)|(have H2_:=(Option.bind_some _ _).symm.trans H;with_reducible exact H2_)|with_reducible exact H|(rw [hy110];exact H)|exact H
 have Ny110:=Am hy110
 clear hy110
 have H':=Am H
 clear H
 go_enter Try.func58,Try.ntmps58
 go_wp2_with (first|((with_reducible refine gD (N:=5) rfl ?_);refine Kd.R_lit (Kd.int .u8) _ 5 ?hg (N:=5) ?hd (xs:=([]:List Int)) (inner:=[]) (ok:=fun _=>True) (okp:=fun _=>True) ?hr ?hp (fun _ hk=>hk) trivial (bJ _ _) (nR _) (by simp) ?_;(case hd=>rfl);(case hg=>rfl);(case hr=>first|(go_simp;done)|(go_simp;rfl));(case hp=>exact (Reps.none _ _));intro v111 w2 ho3 hb hg_ hnew_;clear hg_ hnew_;(first|rw [← Ny110.out] at ho3|(simp only [Int.reduceToNat] at ho3;rw [← Ny110.out] at ho3));have n0_:=Am (rW ho3 (keep_size (w:=w) (g:=g) (row:=none) (by repeat (first|(with_reducible first|exact HK.out|apply KeepBut.set_|apply keep_drewN|apply keep_drew|apply keep_alloc)|exact HK.out))));have n1_:=Am (IsS83.below (by repeat (first|(with_reducible first|exact HI0.out|apply IsS83.alloc|apply IsS83.drewN|apply IsS83.drew|apply IsS83.set_1)|exact HI0.out)) hb);have n2_:=Am (KeepBut.trans (by repeat (first|(with_reducible first|exact HK.out|apply KeepBut.set_|apply keep_drewN|apply keep_drew|apply keep_alloc)|exact HK.out)) (KeepBut.of_below hb g none) (.inl rfl));have n3_:=Am (bP (by repeat (first|(with_reducible first|exact HB.out|apply oA|apply pN|apply o1|refine bS ?_ (IsS83.ge HI0.out))|exact HB.out)) hb);clear HI0 HK HB;revert n0_ n1_ n2_ n3_;intro Bb HI0 HK HB;clear hb ho3))
 go_loopg [3,4] k (fun kq v3 v4 w'=>∃ (x3_1:List Int) (x4_1:Int) (x1001_1:Int),v4=.int .i64 x4_1∧Aside0 (spec_l91Page.l0 kq x3_1 x4_1 s0_0 x1001_1=some (r1,r2))∧Aside0 (kq≤k)∧Aside0 (Kd.R (Kd.int .u8) 5 w' w.heap.size (fun _=>True) v3 x3_1)∧Aside0 (IsS83 w0 w' g s0_0 x1001_1)∧Aside0 (KeepBut w w' g none)∧Aside0 (Below w0.heap.size w0 w'))
 case atStart=>exact ⟨(y110),(0),(s0_1),(by first|rfl|(simp;done)|(simp [*];done)),H',⟨nR _⟩,⟨by (with_reducible repeat (first|apply rA|apply rN|apply rD));exact Bb.out⟩,⟨by repeat (first|(with_reducible first|exact HI0.out|apply IsS83.alloc|apply IsS83.drewN|apply IsS83.drew|apply IsS83.set_1)|exact HI0.out)⟩,⟨by repeat (first|(with_reducible first|exact HK.out|apply KeepBut.set_|apply keep_drewN|apply keep_drew|apply keep_alloc)|exact HK.out)⟩,⟨by repeat (first|(with_reducible first|exact HB.out|apply oA|apply pN|apply o1|refine bS ?_ (IsS83.ge HI0.out))|exact HB.out)⟩⟩
 case round =>
  clear H'
  try clear p2
  obtain ⟨x3_1,x4_1,x1001_1,rfl,HA,HK1,Ba,HI0,HK,HB⟩:=hrel
  cases gk with
 |zero=>exact absurd HA.out (by simp [spec_l91Page.l0])
 |succ k1 =>
   have H:=HA.out
   clear HA
   simp only [spec_l91Page.l0] at H
   by_cases c4:x4_1<4
   rotate_left
   ·rw [if_neg c4] at H
    have c4b0:decide (x4_1<4)=false:=dF c4
    clear c4
    simp only [Option.some.injEq,Prod.mk.injEq] at H
    obtain ⟨rfl,rfl⟩:=H
    have hcv11:=own_string (P:=Try.prog) Try.underlying22 Try.underlying5 Try.underlying9 (Kd.own_of_R Ba.out)
    go_wp2
    go_ret
    exact ⟨by first|rfl|(simp [errW_none,errW_some] <;> rfl)|(simp [*,errW_none,errW_some] <;> rfl),by repeat (first|(with_reducible first|exact HI0.out|apply IsS83.alloc|apply IsS83.drewN|apply IsS83.drew|apply IsS83.set_1)|exact HI0.out),by repeat (first|(with_reducible first|exact HB.out|apply oA|apply pN|apply o1|refine bS ?_ (IsS83.ge HI0.out))|exact HB.out),by repeat (first|(with_reducible first|exact HK.out|apply KeepBut.set_|apply keep_drewN|apply keep_drew|apply keep_alloc)|exact HK.out)⟩


   rw [if_pos c4] at H
   have c4b0:decide (x4_1<4)=true:=dT c4
   clear c4
   replace H:=oC H
   obtain ⟨⟨t113,t114⟩,A50,H⟩:=H
   replace H:((spec_l6Rd_pick.f k1 s0_0 t114 90).bind fun bt115=>(if x3_1.length<140737488355328 then (spec_l91Page.l0 k1 (x3_1 ++ [(wrap64 (t113 * bt115.1)) % 256]) (wrap64 (x4_1 + 1)) s0_0 bt115.2) else (none)))=some (r1,r2):=H
   have A5:=Am A50
   clear A50
   replace H:=oC H
   obtain ⟨⟨t115,t116⟩,A60,H⟩:=H
   replace H:(if x3_1.length<140737488355328 then (spec_l91Page.l0 k1 (x3_1 ++ [(wrap64 (t113 * t115)) % 256]) (wrap64 (x4_1 + 1)) s0_0 t116) else (none))=some (r1,r2):=H
   have A6:=Am A60
   clear A60
   by_cases c7:x3_1.length<140737488355328
   rotate_left
   ·rw [if_neg c7] at H
    exact absurd H (by simp)
   rw [if_pos c7] at H
   have LMc7:=Am c7
   clear c7
   obtain ⟨y117,hy117⟩:∃ y_:List Int,y_=(x3_1 ++ [(wrap64 (t113 * t115)) % 256]):=⟨_,rfl⟩
   replace H:(spec_l91Page.l0 k1 y117 (wrap64 (x4_1 + 1)) s0_0 t116)=some (r1,r2):=by first|(rw [hy117];with_reducible exact H)|(have H2_:=(Option.bind_some _ _).symm.trans H;rw [hy117];with_reducible exact H2_)|(have H2_:=(Option.bind_some _ _).symm.trans H;with_reducible exact H2_)|with_reducible exact H|(rw [hy117];exact H)|exact H
   have Ny117:=Am hy117
   clear hy117
   have H':=Am H
   clear H
   go_wp2_with (first|((with_reducible refine gC (f:=47) rfl ?_);refine goesL_ (some 12) rfl rfl Try.func47 (by kernel_rfl) rfl #[.pointer (some ⟨g,0,none⟩),.int .i64 4] rfl (by (try simp only [lM,lC,lN]);first|done|rfl|(simp only [lD,lT];rfl)) ?_;(with_reducible refine (spec_l6Rd_pick.calls k1 g s0_0 x1001_1 4 t113 t114 w0 _ ?side1 ?side2 A5.out).mono ?_);(case side1=>repeat (first|(with_reducible first|exact HI0.out|apply IsS83.alloc|apply IsS83.drewN|apply IsS83.drew|apply IsS83.set_1)|exact HI0.out));(case side2=>repeat (first|(with_reducible first|exact HB.out|apply oA|apply pN|apply o1|refine bS ?_ (IsS83.ge HI0.out))|exact HB.out));rintro e w8 ⟨rfl,hi,hb,hk⟩;refine ⟨_,rfl,?_⟩;have n0_:=Am (rM (Kd.R_keep (IsS83.apart (show IsS83 w0 _ g s0_0 x1001_1 from by repeat (first|(with_reducible first|exact HI0.out|apply IsS83.alloc|apply IsS83.drewN|apply IsS83.drew|apply IsS83.set_1)|exact HI0.out)) (rL Ba.out) (by decide)) hk (fun _ h=>h.2)) (fun _ h=>h.1));have n1_:=Am (KeepBut.trans (by repeat (first|(with_reducible first|exact HK.out|apply KeepBut.set_|apply keep_drewN|apply keep_drew|apply keep_alloc)|exact HK.out)) hk (.inl rfl));have n2_:=Am (hb);have n3_:=Am (hi);clear Ba HK HB HI0;revert n0_ n1_ n2_ n3_;intro Ba HK HB HI0;(try clear hb);(try clear hb2);(try clear hk);(try clear hi))|((with_reducible refine gC (f:=47) rfl ?_);refine goesL_ (some 14) rfl rfl Try.func47 (by kernel_rfl) rfl #[.pointer (some ⟨g,0,none⟩),.int .i64 90] rfl (by (try simp only [lM,lC,lN]);first|done|rfl|(simp only [lD,lT];rfl)) ?_;(with_reducible refine (spec_l6Rd_pick.calls k1 g s0_0 t114 90 t115 t116 w0 _ ?side1 ?side2 A6.out).mono ?_);(case side1=>repeat (first|(with_reducible first|exact HI0.out|apply IsS83.alloc|apply IsS83.drewN|apply IsS83.drew|apply IsS83.set_1)|exact HI0.out));(case side2=>repeat (first|(with_reducible first|exact HB.out|apply oA|apply pN|apply o1|refine bS ?_ (IsS83.ge HI0.out))|exact HB.out));rintro e w9 ⟨rfl,hi,hb,hk⟩;refine ⟨_,rfl,?_⟩;have n0_:=Am (rM (Kd.R_keep (IsS83.apart (show IsS83 w0 _ g s0_0 t114 from by repeat (first|(with_reducible first|exact HI0.out|apply IsS83.alloc|apply IsS83.drewN|apply IsS83.drew|apply IsS83.set_1)|exact HI0.out)) (rL Ba.out) (by decide)) hk (fun _ h=>h.2)) (fun _ h=>h.1));have n1_:=Am (KeepBut.trans (by repeat (first|(with_reducible first|exact HK.out|apply KeepBut.set_|apply keep_drewN|apply keep_drew|apply keep_alloc)|exact HK.out)) hk (.inl rfl));have n2_:=Am (hb);have n3_:=Am (hi);clear Ba HK HB HI0;revert n0_ n1_ n2_ n3_;intro Ba HK HB HI0;(try clear hb);(try clear hb2);(try clear hk);(try clear hi))|((with_reducible refine gate_builtin (b:=.append) (xs:=#[.tmp 10,.tmp 17]) rfl ?_);at_builtin;refine Kd.R_append (Kd.int .u8) w.heap.size rfl (.tmp 10) (.tmp 17) 22 5 (.int .u8 0) 1 rfl Try.underlying22 info5 rfl (by decide) (by omega) u3 x3_1 ((wrap64 (t113 * t115)) % 256) [.int .u8 ((wrap64 (t113 * t115)) % 256)] (fun _=>True) (fun _=>False) rfl rfl ?aP (fun _ hk=>hk.elim) ?aF ?aO (bJ _ _) ?aS ?aL ?_;(case aP=>exact rfl);(case aF=>exact (fun _ _=>trivial));(case aO=>exact (rL Ba.out));(case aS=>exact (keep_size (w:=w) (g:=g) (row:=none) (by repeat (first|(with_reducible first|exact HK.out|apply KeepBut.set_|apply keep_drewN|apply keep_drew|apply keep_alloc)|exact HK.out))));(case aL=>have:=LMc7.out;omega);intro v118 w10 ho hb hg hat;rw [← Ny117.out] at ho;have n0_:=Am (IsS83.grown (by repeat (first|(with_reducible first|exact HI0.out|apply IsS83.alloc|apply IsS83.drewN|apply IsS83.drew|apply IsS83.set_1)|exact HI0.out)) hg (IsS83.own_ne HI0.out Ba.out (by decide)));have n1_:=Am (below_weaken (by repeat (first|(with_reducible first|exact HB.out|apply oA|apply pN|apply o1|refine bS ?_ (IsS83.ge HI0.out))|exact HB.out)) HL.out hb);have n2_:=Am (KeepBut.trans (by repeat (first|(with_reducible first|exact HK.out|apply KeepBut.set_|apply keep_drewN|apply keep_drew|apply keep_alloc)|exact HK.out)) (KeepBut.of_grown hg g) (Kd.R_base2 Ba.out));have n3_:=Am (ho);clear HI0 HB HK Ba;revert n0_ n1_ n2_ n3_;intro HI0 HB HK Bc;clear ho hb hg hat))
   go_roundg k1
   case measure=>have:=HK1.out;omega
   case rel=>exact ⟨(y117),(wrap64 (x4_1 + 1)),(t116),(by first|rfl|(simp;done)|(simp [*];done)),H',⟨by have:=HK1.out;omega⟩,⟨by (with_reducible repeat (first|apply rA|apply rN|apply rD));exact Bc.out⟩,⟨by repeat (first|(with_reducible first|exact HI0.out|apply IsS83.alloc|apply IsS83.drewN|apply IsS83.drew|apply IsS83.set_1)|exact HI0.out)⟩,⟨by repeat (first|(with_reducible first|exact HK.out|apply KeepBut.set_|apply keep_drewN|apply keep_drew|apply keep_alloc)|exact HK.out)⟩,⟨by repeat (first|(with_reducible first|exact HB.out|apply oA|apply pN|apply o1|refine bS ?_ (IsS83.ge HI0.out))|exact HB.out)⟩⟩/-! ### spec_l1Take: function 59 -/
def spec_l1Take.l0 : Nat → ByteArray → Int → List ByteArray → List Int → Option (List ByteArray × List Int × Int)
|0, _, _, _, _ => none
|k + 1, x1, x6, x121000, x121001 => if x6 < (x121001.length : Int) then (if 0 ≤ x6 then (if (rd x121001 x6) = 0 then (if x6 < (x121000.length : Int) then (some ((x121000.set (x6 : Int).toNat x1), (x121001.set (x6 : Int).toNat 1), x6)) else (none)) else (spec_l1Take.l0 k x1 (wrap64 (x6 + 1)) x121000 x121001)) else (none)) else (some (x121000, x121001, (-1)))
def spec_l1Take.f (k : Nat) (l0_0 : List ByteArray) (l0_1 : List Int) (a1 : ByteArray) : Option (List ByteArray × List Int × Int) := spec_l1Take.l0 k a1 0 l0_0 l0_1
theorem spec_l1Take.mono_l : ∀ k, (∀ y0 y1 y2 y3, LeO (spec_l1Take.l0 k y0 y1 y2 y3) (spec_l1Take.l0 (k + 1) y0 y1 y2 y3))
|0 => fun _ _ _ _ r h => by simp [spec_l1Take.l0] at h
|k + 1 => by
  have ih0 := spec_l1Take.mono_l k
  ·intro y0 y1 y2 y3
   unfold spec_l1Take.l0
   repeat' first
  |(with_reducible exact ih0 _ _ _ _)
  |(with_reducible exact LeO.refl _)
  |(with_reducible exact LeO.none _)
  |(with_reducible refine LeO.ite ?_ ?_)
  |(with_reducible refine LeO.bind ?_ (fun _ => ?_))
  |exact ih0 _ _ _ _
  |exact LeO.none _
  |refine LeO.ite ?_ ?_
  |refine LeO.bind ?_ (fun _ => ?_)
theorem spec_l1Take.mono : ∀ a0 a1 a2 k, LeO (spec_l1Take.f k a0 a1 a2) (spec_l1Take.f (k + 1) a0 a1 a2) := by
 intro a0 a1 a2 k
 have ih0 := spec_l1Take.mono_l k
 unfold spec_l1Take.f
 repeat' first
  |(with_reducible exact ih0 _ _ _ _)
  |(with_reducible exact LeO.refl _)
  |(with_reducible exact LeO.none _)
  |(with_reducible refine LeO.ite ?_ ?_)
  |(with_reducible refine LeO.bind ?_ (fun _ => ?_))
  |exact ih0 _ _ _ _
  |exact LeO.none _
  |refine LeO.ite ?_ ?_
  |refine LeO.bind ?_ (fun _ => ?_)
set_option maxHeartbeats 2000000 in
set_option maxRecDepth 100000 in
theorem spec_l1Take.calls (k:Nat) (P0_0_:Nat → Prop) (u9000_:Value) (l0_0:List ByteArray) (P0_1_:Nat → Prop) (u9001_:Value) (l0_1:List Int) (a1:ByteArray) (r1:List ByteArray) (r2:List Int) (r3:Int) (w0 w:World) (hB:Below w0.heap.size w0 w) (ho0_0:Kd.R Kd.string 9 w w0.heap.size P0_0_ u9000_ l0_0) (ho0_1:Kd.R (Kd.int .i64) 3 w w0.heap.size P0_1_ u9001_ l0_1) (h:spec_l1Take.f k l0_0 l0_1 a1=some (r1,r2,r3)) :
  Calls Try.prog 59 #[.agg #[u9000_,u9001_],.string a1] w fun e w'=>∃ v0_ v1_:Value,e=.returned (.tuple #[.agg #[v0_,v1_],.int .i64 r3])∧Kd.R Kd.string 9 w' w0.heap.size (fun k_=>((P0_0_ k_∨P0_1_ k_)∨w.heap.size≤k_)) v0_ r1∧Kd.R (Kd.int .i64) 3 w' w0.heap.size (fun k_=>((P0_0_ k_∨P0_1_ k_)∨w.heap.size≤k_)) v1_ r2∧Below w0.heap.size w0 w'∧Kept w w' (fun k_=>P0_0_ k_∨P0_1_ k_):=by
 have hu26:=Try.underlying26
 have Bg:=Am (show Kd.R Kd.string 9 w w0.heap.size (fun k_=>((P0_0_ k_∨P0_1_ k_)∨w.heap.size≤k_)) u9000_ l0_0 from rM ho0_0 (fun k_ hk=>(.inl (.inl hk))))
 have Bh:=Am (show Kd.R (Kd.int .i64) 3 w w0.heap.size (fun k_=>((P0_0_ k_∨P0_1_ k_)∨w.heap.size≤k_)) u9001_ l0_1 from rM ho0_1 (fun k_ hk=>(.inl (.inr hk))))
 have HK:=Am (Kept.refl w (fun k_=>P0_0_ k_∨P0_1_ k_))
 have HW0:=Am hB.size
 have HB:=Am hB
 clear hB
 have H:(spec_l1Take.l0 k a1 0 l0_0 l0_1)=some (r1,r2,r3):=h
 clear h
 have H':=Am H
 clear H
 obtain ⟨Ao3,co3,eo3⟩:=rC Bg.out
 subst eo3
 obtain ⟨Ao4,co4,eo4⟩:=rC Bh.out
 subst eo4
 go_enter Try.func59,Try.ntmps59
 go_wp2_with (first|((with_reducible refine gD (N:=2) rfl ?_);refine bI ?hg (N:=2) ?hd (cs:=#[.slice Ao3 l0_0.length co3,.slice Ao4 l0_1.length co4]) (t:=26) ?hr ?_;(case hd=>rfl);(case hg=>rfl);(case hr=>first|(go_simp;done)|(go_simp;rfl));intro Bf hg w5 hbox hb;have n0_:=Am (rB (rL Bg.out) hb);have n1_:=Am (rB (rL Bh.out) hb);have n2_:=Am (Kept.below (S:=(fun k_=>P0_0_ k_∨P0_1_ k_)) (by repeat (first|(with_reducible first|exact HK.out|apply Kept.alloc|apply Kept.drewN|apply Kept.drew)|exact HK.out)) hb);have n3_:=Am (bP (by repeat (first|(with_reducible first|exact HB.out|apply oA|apply pN|apply o1)|exact HB.out)) hb);have n4_:=Am (hbox);have n5_:=Am ((by rw [hg];exact (by first|exact HK.out.1|exact (show Kept w _ (fun k_=>P0_0_ k_∨P0_1_ k_) from by repeat (first|(with_reducible first|exact HK.out|apply Kept.alloc|apply Kept.drewN|apply Kept.drew)|exact HK.out)).1):w.heap.size≤Bf));have n6_:=Am ((by rw [hg];exact (bZ (by repeat (first|(with_reducible first|exact HB.out|apply oA|apply pN|apply o1)|exact HB.out))):w0.heap.size≤Bf));clear Bg Bh HK HB;revert n0_ n1_ n2_ n3_ n4_ n5_ n6_;intro Bg Bh HK HB Bb Bi Bl;clear hb hbox hg)|((with_reducible refine gD (N:=4) rfl ?_);refine bI ?hg (N:=4) ?hd (cs:=#[.slice none 0 0,.slice none 0 0]) (t:=26) ?hr ?_;(case hd=>rfl);(case hg=>rfl);(case hr=>first|(go_simp;done)|(go_simp;rfl));intro Be hg w6 hbox hb;have n0_:=Am (rB (rL Bg.out) hb);have n1_:=Am (rB (rL Bh.out) hb);have n2_:=Am (bX Bb.out hb);have n3_:=Am (Kept.below (S:=(fun k_=>P0_0_ k_∨P0_1_ k_)) (by repeat (first|(with_reducible first|exact HK.out|apply Kept.alloc|apply Kept.drewN|apply Kept.drew|refine Kept.setCell ?_ (.inr Bi.out) _)|exact HK.out)) hb);have n4_:=Am (bP (by repeat (first|(with_reducible first|exact HB.out|apply oA|apply pN|apply o1|refine bS ?_ Bl.out)|exact HB.out)) hb);have n5_:=Am (hbox);have n6_:=Am ((by rw [hg];exact (by first|exact HK.out.1|exact (show Kept w _ (fun k_=>P0_0_ k_∨P0_1_ k_) from by repeat (first|(with_reducible first|exact HK.out|apply Kept.alloc|apply Kept.drewN|apply Kept.drew|refine Kept.setCell ?_ (.inr Bi.out) _)|exact HK.out)).1):w.heap.size≤Be));have n7_:=Am ((by rw [hg];exact (bZ (by repeat (first|(with_reducible first|exact HB.out|apply oA|apply pN|apply o1|refine bS ?_ Bl.out)|exact HB.out))):w0.heap.size≤Be));have n8_:=Am ((nL Bb.out hg));have n9_:=Am ((nG Bb.out hg));clear Bg Bh Bb HK HB;revert n0_ n1_ n2_ n3_ n4_ n5_ n6_ n7_ n8_ n9_;intro Bg Bh Bb HK HB Bd Bm Bn Bj Bk;clear hb hbox hg))
 go_loopg [6] k (fun kq v6 w'=>∃ (x6_1:Int) (x121000_1:List ByteArray) (x121001_1:List Int) (u121000:Value) (u121001:Value),v6=.int .i64 x6_1∧Aside0 (spec_l1Take.l0 kq a1 x6_1 x121000_1 x121001_1=some (r1,r2,r3))∧Aside0 (kq≤k)∧Aside0 (Kd.R Kd.string 9 w' w0.heap.size (fun k_=>((P0_0_ k_∨P0_1_ k_)∨w.heap.size≤k_)) u121000 x121000_1)∧Aside0 (Kd.R (Kd.int .i64) 3 w' w0.heap.size (fun k_=>((P0_0_ k_∨P0_1_ k_)∨w.heap.size≤k_)) u121001 x121001_1)∧Aside0 (w'.heap[Bf]?=some (.cells #[u121000,u121001] 26 (0,0)))∧Aside0 (w'.heap[Be]?=some (.cells #[(.slice none 0 0),(.slice none 0 0)] 26 (0,0)))∧Aside0 (Kept w w' (fun k_=>P0_0_ k_∨P0_1_ k_))∧Aside0 (Below w0.heap.size w0 w'))
 case atStart=>exact ⟨(0),(l0_0),(l0_1),(.slice Ao3 l0_0.length co3),(.slice Ao4 l0_1.length co4),(by first|rfl|(simp;done)|(simp [*];done)),H',⟨nR _⟩,⟨by (with_reducible repeat (first|apply rA|apply rN|apply rD));exact Bg.out⟩,⟨by (with_reducible repeat (first|apply rA|apply rN|apply rD));exact Bh.out⟩,⟨by (with_reducible repeat (first|refine bN ?_ _|refine bD ?_|refine bA ?_ _));exact Bb.out⟩,⟨by (with_reducible repeat (first|refine bN ?_ _|refine bD ?_|refine bA ?_ _));exact Bd.out⟩,⟨by repeat (first|(with_reducible first|exact HK.out|apply Kept.alloc|apply Kept.drewN|apply Kept.drew|refine Kept.setCell ?_ (.inr Bi.out) _|refine Kept.setCell ?_ (.inr Bm.out) _)|exact HK.out)⟩,⟨by repeat (first|(with_reducible first|exact HB.out|apply oA|apply pN|apply o1|refine bS ?_ Bl.out|refine bS ?_ Bn.out)|exact HB.out)⟩⟩
 case round =>
  clear H'
  try clear p2
  try clear c5
  obtain ⟨x6_1,x121000_1,x121001_1,u121000,u121001,rfl,HA,HK1,Bc,Ba,Bb,Bd,HK,HB⟩:=hrel
  cases gk with
 |zero=>exact absurd HA.out (by simp [spec_l1Take.l0])
 |succ k1 =>
   have H:=HA.out
   clear HA
   simp only [spec_l1Take.l0] at H
   by_cases c7:x6_1<(x121001_1.length:Int)
   rotate_left
   ·rw [if_neg c7] at H
    have c7b0:decide (x6_1<(x121001_1.length:Int))=false:=dF c7
    clear c7
    simp only [Option.some.injEq,Prod.mk.injEq] at H
    obtain ⟨rfl,rfl,rfl⟩:=H
    have BW:=Bj.out
    have BX:=Bk.out
    have BK:=cz0 Bb.out
    have BL:=cz1 Bb.out
    have BM:=bF Bb.out 0
    have BN:=bF Bb.out 1
    obtain ⟨Ao28,co28,eo28⟩:=rC Ba.out
    subst eo28
    obtain ⟨Ao29,co29,eo29⟩:=rC Bc.out
    subst eo29
    have BO:=cz0 Bd.out
    have BP:=cz1 Bd.out
    have BQ:=bF Bd.out 0
    have BR:=bF Bd.out 1
    go_wp2
    refine bodyPost_ret (results_ct rfl _ _ Be 26 #[.slice Ao29 x121000_1.length co29,.slice Ao28 x121001_1.length co28] (0,0) _ rfl (by (with_reducible repeat (first|refine bN ?_ _|refine bD ?_|refine bA ?_ _));refine bT (cs:=#[.slice Ao29 x121000_1.length co29,.slice none 0 0]) ?_ 1 _ rfl;(with_reducible repeat (first|refine bN ?_ _|refine bD ?_|refine bA ?_ _));refine bT (cs:=#[.slice none 0 0,.slice none 0 0]) ?_ 0 _ rfl;(with_reducible repeat (first|refine bN ?_ _|refine bD ?_|refine bA ?_ _));exact Bd.out) Try.underlying26 rfl (by kernel_rfl)) rfl ?_
    exact ⟨_,_,by first|rfl|(simp [errW_none,errW_some] <;> rfl)|(simp [*,errW_none,errW_some] <;> rfl),by (with_reducible repeat (first|apply rA|apply rN|apply rD));exact rM (rF (p:=⟨Be,1,none⟩) (rF (p:=⟨Be,0,none⟩) (rT Bc.out Bd.out (by decide)) (fun _ hk=>hk.2) (.slice Ao29 x121000_1.length co29)) (fun _ hk=>hk.2) (.slice Ao28 x121001_1.length co28)) (fun _ hk=>hk.1),by (with_reducible repeat (first|apply rA|apply rN|apply rD));exact rM (rF (p:=⟨Be,1,none⟩) (rF (p:=⟨Be,0,none⟩) (rT Ba.out Bd.out (by decide)) (fun _ hk=>hk.2) (.slice Ao29 x121000_1.length co29)) (fun _ hk=>hk.2) (.slice Ao28 x121001_1.length co28)) (fun _ hk=>hk.1),by repeat (first|(with_reducible first|exact HB.out|apply oA|apply pN|apply o1|refine bS ?_ Bl.out|refine bS ?_ Bn.out)|exact HB.out),by repeat (first|(with_reducible first|exact HK.out|apply Kept.alloc|apply Kept.drewN|apply Kept.drew|refine Kept.setCell ?_ (.inr Bi.out) _|refine Kept.setCell ?_ (.inr Bm.out) _)|exact HK.out)⟩

   rw [if_pos c7] at H
   have c7b0:decide (x6_1<(x121001_1.length:Int))=true:=dT c7
   clear c7
   by_cases c8:0≤x6_1
   rotate_left
   ·rw [if_neg c8] at H
    exact absurd H (by simp)
   rw [if_pos c8] at H
   have c8b0:decide (0≤x6_1)=true:=dT c8
   clear c8
   by_cases c9:(rd x121001_1 x6_1)=0
   rotate_left
   ·rw [if_neg c9] at H
    have c9b0:((rd x121001_1 x6_1) == 0)=false:=beq_eq_false_iff_ne.mpr c9
    have c9b1:((rd x121001_1 x6_1) != 0)=true:=bne_iff_ne.mpr c9
    have H':=Am H
    clear H
    have BU:=Bj.out
    have BV:=Bk.out
    have BG:=cz0 Bb.out
    have BH:=cz1 Bb.out
    have BI:=bF Bb.out 0
    have BJ:=bF Bb.out 1
    obtain ⟨Ao25,co25,eo25⟩:=rC Ba.out
    subst eo25
    have p122:0≤(x6_1:Int):=oE (by first|(with_reducible assumption)|assumption)
    have q122:x6_1<(x121001_1.length:Int):=oE (by first|(with_reducible assumption)|assumption)
    obtain ⟨ad122,e122,hx122_0⟩:=Kd.at_int (rR Ba.out).2.2 x6_1 p122 q122
    cases e122
    replace p122:=eq_true p122
    replace q122:=eq_true q122
    go_wp2
    go_roundg k1
    case measure=>have:=HK1.out;omega
    case rel=>exact ⟨(wrap64 (x6_1 + 1)),(x121000_1),(x121001_1),(u121000),(.slice (some ad122) x121001_1.length co25),(by first|rfl|(simp;done)|(simp [*];done)),H',⟨by have:=HK1.out;omega⟩,⟨by (with_reducible repeat (first|apply rA|apply rN|apply rD));exact Bc.out⟩,⟨by (with_reducible repeat (first|apply rA|apply rN|apply rD));exact Ba.out⟩,⟨by (with_reducible repeat (first|refine bN ?_ _|refine bD ?_|refine bA ?_ _));exact Bb.out⟩,⟨by (with_reducible repeat (first|refine bN ?_ _|refine bD ?_|refine bA ?_ _));exact Bd.out⟩,⟨by repeat (first|(with_reducible first|exact HK.out|apply Kept.alloc|apply Kept.drewN|apply Kept.drew|refine Kept.setCell ?_ (.inr Bi.out) _|refine Kept.setCell ?_ (.inr Bm.out) _)|exact HK.out)⟩,⟨by repeat (first|(with_reducible first|exact HB.out|apply oA|apply pN|apply o1|refine bS ?_ Bl.out|refine bS ?_ Bn.out)|exact HB.out)⟩⟩
   rw [if_pos c9] at H
   have c9b0:((rd x121001_1 x6_1) == 0)=true:=beq_iff_eq.mpr c9
   have c9b1:((rd x121001_1 x6_1) != 0)=false:=bne_eq_false_iff_eq.mpr c9
   clear c9
   obtain ⟨y123,hy123⟩:∃ y_:List Int,y_=(x121001_1.set (x6_1:Int).toNat 1):=⟨_,rfl⟩
   replace H:(if x6_1<(x121000_1.length:Int) then (some ((x121000_1.set (x6_1:Int).toNat a1),y123,x6_1)) else (none))=some (r1,r2,r3):=by first|(rw [hy123];with_reducible exact H)|(have H2_:=(Option.bind_some _ _).symm.trans H;rw [hy123];with_reducible exact H2_)|(have H2_:=(Option.bind_some _ _).symm.trans H;with_reducible exact H2_)|with_reducible exact H|(rw [hy123];exact H)|exact H
   have Ny123:=Am hy123
   clear hy123
   by_cases c11:x6_1<(x121000_1.length:Int)
   rotate_left
   ·rw [if_neg c11] at H
    exact absurd H (by simp)
   rw [if_pos c11] at H
   have c11b0:decide (x6_1<(x121000_1.length:Int))=true:=dT c11
   clear c11
   obtain ⟨y124,hy124⟩:∃ y_:List ByteArray,y_=(x121000_1.set (x6_1:Int).toNat a1):=⟨_,rfl⟩
   replace H:(some (y124,y123,x6_1))=some (r1,r2,r3):=by first|(rw [hy124];with_reducible exact H)|(have H2_:=(Option.bind_some _ _).symm.trans H;rw [hy124];with_reducible exact H2_)|(have H2_:=(Option.bind_some _ _).symm.trans H;with_reducible exact H2_)|with_reducible exact H|(rw [hy124];exact H)|exact H
   have Ny124:=Am hy124
   clear hy124
   simp only [Option.some.injEq,Prod.mk.injEq] at H
   obtain ⟨rfl,rfl,rfl⟩:=H
   have BS:=Bj.out
   have BT:=Bk.out
   have Bq:=cz0 Bb.out
   have Br:=cz1 Bb.out
   have Bs:=bF Bb.out 0
   have Bt:=bF Bb.out 1
   obtain ⟨Ao15,co15,eo15⟩:=rC Ba.out
   subst eo15
   have p122:0≤(x6_1:Int):=oE (by first|(with_reducible assumption)|assumption)
   have q122:x6_1<(x121001_1.length:Int):=oE (by first|(with_reducible assumption)|assumption)
   obtain ⟨ad122,e122,hx122_0⟩:=Kd.at_int (rR Ba.out).2.2 x6_1 p122 q122
   cases e122
   replace p122:=eq_true p122
   replace q122:=eq_true q122
   have p10:0≤(x6_1:Int):=oE (by first|(with_reducible assumption)|assumption)
   have q10:(x6_1:Int)<((x121001_1.length:Int):Int):=oE (by first|(with_reducible assumption)|assumption)
   obtain ⟨go10,co10,eo10,Bo,gl10,cl10,HG10⟩:=Kd.R_form Ba.out (by omega)
   (first|cases eo10|(injection eo10 with ea_ en_ ec_;(first|subst ea_|(injection ea_ with ea_;subst ea_));subst ec_;clear en_))
   have GB10:=Am Bo
   have GG10:=Am HG10
   clear Bo gl10 HG10
   have HMgo10:=Am (show ((P0_0_ go10∨P0_1_ go10)∨w.heap.size≤go10) from (Ba.out.1 _ rfl))
   (try simp only [aP] at hx122_0)
   obtain ⟨hx10_0,hf10_0⟩:=Kd.R_celln 0 Ba.out (x6_1:Int) p10 q10
   replace p10:=eq_true p10
   replace q10:=eq_true q10
   have HP16:=Kd.R_putg Ba.out (x6_1:Int) 1
   go_wp2_with (first|((with_reducible refine gS (t:=3) (p:=23) rfl ?_);refine sE (t:=3) (p:=23) (v:=?vo_w17) (w1:=(wr.setCell ⟨go10,(x6_1:Int).toNat,none⟩ (.int .i64 1))) ?hg ?ho ?hn ?hr ?_;(case ho=>rfl);(case hg=>rfl);(case hn=>rfl);(case hr=>first|(go_simp;done)|(go_simp;rfl));intro w17 hw;have hg:wr.grownBy w17 (some go10):=(by rw [hw];exact HP16.2);have hp_:Kd.R (Kd.int .i64) 3 w17 w0.heap.size (fun k_=>((P0_0_ k_∨P0_1_ k_)∨w.heap.size≤k_)) (.slice (some ⟨go10,0,none⟩) x121001_1.length co15) y123:=(by rw [hw,Ny123.out];exact HP16.1);clear HP16;have n0_:=Am (rO (v:=(.slice (some ⟨go10,0,none⟩) x121001_1.length co15)) (rL Bc.out) (rY Ba.out) (by decide) hg);have n1_:=Am (hp_);have n2_:=Am (bG (g:=Bf) (o:=.cells #[u121000,.slice (some ⟨go10,0,none⟩) x121001_1.length co15] 26 (0,0)) (bL Bb.out) hg (rE Ba.out Bb.out (by decide)));have n3_:=Am (bG (g:=Be) (o:=.cells #[.slice none 0 0,.slice none 0 0] 26 (0,0)) (bL Bd.out) hg (rE Ba.out Bd.out (by decide)));have n4_:=Am ((by rw [hw];exact bS (HB.out) GB10.out:Below w0.heap.size w0 w17));have n5_:=Am (Kept.of_grown (S:=(fun k_=>P0_0_ k_∨P0_1_ k_)) hg (by repeat (first|(with_reducible first|exact HK.out|apply Kept.alloc|apply Kept.drewN|apply Kept.drew|refine Kept.setCell ?_ (.inr Bi.out) _|refine Kept.setCell ?_ (.inr Bm.out) _)|exact HK.out)) (fun k_ e_=>(Ba.out.1 k_ e_)));clear Bc Ba Bb Bd HB HK;revert n0_ n1_ n2_ n3_ n4_ n5_;intro Bc Ba Bb Bd HB HK;clear hg hw hp_;have Bu:=cz0 Bb.out;have Bv:=cz1 Bb.out;have Bw:=bF Bb.out 0;have Bx:=bF Bb.out 1;have p12:0≤(x6_1:Int):=oE (by first|(with_reducible assumption)|assumption);have q12:(x6_1:Int)<((x121000_1.length:Int):Int):=oE (by first|(with_reducible assumption)|assumption);obtain ⟨go12,co12,eo12,Bp,gl12,cl12,HG12⟩:=Kd.R_form Bc.out (by omega);(first|cases eo12|(injection eo12 with ea_ en_ ec_;(first|subst ea_|(injection ea_ with ea_;subst ea_));subst ec_;clear en_));have GB12:=Am Bp;have GG12:=Am HG12;clear Bp gl12 HG12;have HMgo12:=Am (show ((P0_0_ go12∨P0_1_ go12)∨w.heap.size≤go12) from (Bc.out.1 _ rfl));obtain ⟨hx12_0,hf12_0⟩:=Kd.R_celln (⟨#[]⟩:ByteArray) Bc.out (x6_1:Int) p12 q12;replace p12:=eq_true p12;replace q12:=eq_true q12;obtain ⟨hy19_,hz19_⟩:=Kd.R_celln (⟨#[]⟩:ByteArray) Bc.out (x6_1:Int) (oE (by first|(with_reducible assumption)|assumption)) (oE (by first|(with_reducible assumption)|assumption));have HP19:=Kd.R_putg Bc.out (x6_1:Int) a1)|((with_reducible refine gS (t:=9) (p:=28) rfl ?_);refine sE (t:=9) (p:=28) (v:=?vo_w20) (w1:=(w17.setCell ⟨go12,(x6_1:Int).toNat,none⟩ (.string a1))) ?hg ?ho ?hn ?hr ?_;(case ho=>rfl);(case hg=>rfl);(case hn=>rfl);(case hr=>first|(go_simp;done)|(go_simp;rfl));intro w20 hw;have hg:w17.grownBy w20 (some go12):=(by rw [hw];exact HP19.2);have hp_:Kd.R Kd.string 9 w20 w0.heap.size (fun k_=>((P0_0_ k_∨P0_1_ k_)∨w.heap.size≤k_)) (.slice (some ⟨go12,0,none⟩) x121000_1.length co12) y124:=(by rw [hw,Ny124.out];exact HP19.1);clear HP19;have n0_:=Am (hp_);have n1_:=Am (rO (v:=(.slice (some ⟨go12,0,none⟩) x121000_1.length co12)) (rL Ba.out) (rY Bc.out) (by decide) hg);have n2_:=Am (bG (g:=Bf) (o:=.cells #[.slice (some ⟨go12,0,none⟩) x121000_1.length co12,.slice (some ⟨go10,0,none⟩) x121001_1.length co15] 26 (0,0)) (bL Bb.out) hg (rE Bc.out Bb.out (by decide)));have n3_:=Am (bG (g:=Be) (o:=.cells #[.slice none 0 0,.slice none 0 0] 26 (0,0)) (bL Bd.out) hg (rE Bc.out Bd.out (by decide)));have n4_:=Am ((by rw [hw];exact bS (HB.out) GB12.out:Below w0.heap.size w0 w20));have n5_:=Am (Kept.of_grown (S:=(fun k_=>P0_0_ k_∨P0_1_ k_)) hg (by repeat (first|(with_reducible first|exact HK.out|apply Kept.alloc|apply Kept.drewN|apply Kept.drew|refine Kept.setCell ?_ (.inr Bi.out) _|refine Kept.setCell ?_ (.inr Bm.out) _)|exact HK.out)) (fun k_ e_=>(Bc.out.1 k_ e_)));clear Bc Ba Bb Bd HB HK;revert n0_ n1_ n2_ n3_ n4_ n5_;intro Bc Ba Bb Bd HB HK;clear hg hw hp_;have By:=cz0 Bb.out;have Bz:=cz1 Bb.out;have BA:=bF Bb.out 0;have BB:=bF Bb.out 1;have BC:=cz0 Bd.out;have BD:=cz1 Bd.out;have BE:=bF Bd.out 0;have BF:=bF Bd.out 1))
   refine bodyPost_ret (results_ct rfl _ _ Be 26 #[.slice (some ⟨go12,0,none⟩) x121000_1.length co12,.slice (some ⟨go10,0,none⟩) x121001_1.length co15] (0,0) _ rfl (by (with_reducible repeat (first|refine bN ?_ _|refine bD ?_|refine bA ?_ _));refine bT (cs:=#[.slice (some ⟨go12,0,none⟩) x121000_1.length co12,.slice none 0 0]) ?_ 1 _ rfl;(with_reducible repeat (first|refine bN ?_ _|refine bD ?_|refine bA ?_ _));refine bT (cs:=#[.slice none 0 0,.slice none 0 0]) ?_ 0 _ rfl;(with_reducible repeat (first|refine bN ?_ _|refine bD ?_|refine bA ?_ _));exact Bd.out) Try.underlying26 rfl (by kernel_rfl)) rfl ?_
   exact ⟨_,_,by first|rfl|(simp [errW_none,errW_some] <;> rfl)|(simp [*,errW_none,errW_some] <;> rfl),by (with_reducible repeat (first|apply rA|apply rN|apply rD));exact rM (rF (p:=⟨Be,1,none⟩) (rF (p:=⟨Be,0,none⟩) (rT Bc.out Bd.out (by decide)) (fun _ hk=>hk.2) (.slice (some ⟨go12,0,none⟩) x121000_1.length co12)) (fun _ hk=>hk.2) (.slice (some ⟨go10,0,none⟩) x121001_1.length co15)) (fun _ hk=>hk.1),by (with_reducible repeat (first|apply rA|apply rN|apply rD));exact rM (rF (p:=⟨Be,1,none⟩) (rF (p:=⟨Be,0,none⟩) (rT Ba.out Bd.out (by decide)) (fun _ hk=>hk.2) (.slice (some ⟨go12,0,none⟩) x121000_1.length co12)) (fun _ hk=>hk.2) (.slice (some ⟨go10,0,none⟩) x121001_1.length co15)) (fun _ hk=>hk.1),by repeat (first|(with_reducible first|exact HB.out|apply oA|apply pN|apply o1|refine bS ?_ Bl.out|refine bS ?_ Bn.out)|exact HB.out),by repeat (first|(with_reducible first|exact HK.out|apply Kept.alloc|apply Kept.drewN|apply Kept.drew|refine Kept.setCell ?_ (.inr Bi.out) _|refine Kept.setCell ?_ (.inr Bm.out) _)|exact HK.out)⟩
end Go.Proofs.Ytpdfkbggaihfpaa.PFnPagesSet
