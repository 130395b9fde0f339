/- Proved here, without a condition beyond those that each theorem states: what the Go functions named below do is what the plain functions of the same names say. Written by xprint.py, a program of this session. -/
import Derived.Test.YtfhcgmfodfcpeaaPFnQueueTickx0
import Derived.Test.YtfhcgmfodfcpeaaPFnQueueTickx3
import Derived.Test.YtfhcgmfodfcpeaaPFnQueueTickx7
import Derived.Test.YtfhcgmfodfcpeaaPFnQueueTickx11
import Derived.Test.YtfhcgmfodfcpeaaPFnQueueTickx14
namespace Go.Proofs.Ytfhcgmfodfcpeaa.PFnQueueTick
open Go.RowKit Go.Proofs.YtfhcgmfodfcpeaaW.PrintWords Go.Proofs.YtfhcgmfodfcpeaaW.PrintLast Go.Proofs.YtfhcgmfodfcpeaaW.PrintMore
attribute [local go_sem] max2_int min2_int max_two min_two max_three min_three max_four min_four   -- for this text's walks alone
set_option linter.unusedVariables false
set_option linter.unusedSimpArgs false

attribute [local go_sem ↓] isSome_setCell_
/-! ### spec_l11Copy: function 40 -/
def spec_l11Copy.f (l0_0 : List (S40)) (a0_1 : Int) : Option ((List (S40)) × Int) := (some (([] : List (S40)) : List (S40))).bind fun y272 => (if y272.length + l0_0.length < 4398046511104 then (some ((y272 ++ l0_0), a0_1)) else (none))
def spec_l11Copy.T1 : Bool × List (List Nat × List Nat) := (true, [([], []), ([], []), ([1], [1]), ([0, 2], [0, 2]), ([], []), ([4], [4]), ([3, 5], [3, 5]), ([6, 3, 0, 1, 2, 3, 4, 5, 6], [6])])
def spec_l11Copy.B1 : List Nat := [0, 0, 2, 7, 0, 16, 63, 127]
theorem spec_l11Copy.tab1 : rtab .any (opsOf Try.f40 1) = spec_l11Copy.T1 := by kernel_rfl
theorem spec_l11Copy.bits1 : waitsOk spec_l11Copy.T1.2 spec_l11Copy.B1 = true := by kernel_rfl
abbrev z40q0 : Array Bool := bQ 8 0
abbrev z40q1 : Array Bool := bQ 8 2
abbrev z40q2 : Array Bool := bQ 8 18
abbrev z40q3 : Array Bool := bQ 8 22
abbrev z40q4 : Array Bool := bQ 8 54
abbrev z40q5 : Array Bool := bQ 8 55
abbrev z40q6 : Array Bool := bQ 8 63
abbrev z40q7 : Array Bool := bQ 8 127
abbrev z40q8 : Array Bool := bQ 8 255
set_option maxHeartbeats 2000000 in
set_option maxRecDepth 100000 in
theorem spec_l11Copy.calls (A0_0:Option Addr) (c0_0:Nat) (l0_0:List (S40)) (a0_1:Int) (r1:List (S40)) (r2:Int) (w:World) (hr0_0:Kd.C k40 w A0_0 l0_0.length l0_0) (hc0_0:l0_0.length≤c0_0) (h:spec_l11Copy.f l0_0 a0_1=some (r1,r2)) :
  Calls Try.prog 40 #[.agg #[.slice A0_0 l0_0.length c0_0,.int .i64 a0_1]] w fun e w'=>∃ v0_:Value,e=.returned (.agg #[v0_,.int .i64 r2])∧Kd.R k40 40 w' w.heap.size (fun _=>True) v0_ r1∧Below w.heap.size w w':=by
 have hu25:=Try.underlying25
 have HR0_0:=Am hr0_0
 have HC0_0:=Am hc0_0
 clear hr0_0 hc0_0
 have HB:=Am (Below.refl w.heap.size w)
 have H:((some (([]:List (S40)):List (S40))).bind fun y272=>(if y272.length + l0_0.length<4398046511104 then (some ((y272 ++ l0_0),a0_1)) else (none)))=some (r1,r2):=h
 clear h
 obtain ⟨y272,hy272⟩:∃ y_:List (S40),y_=(([]:List (S40))):=⟨_,rfl⟩
 replace H:(if y272.length + l0_0.length<4398046511104 then (some ((y272 ++ l0_0),a0_1)) else (none))=some (r1,r2):=by first|(rw [hy272];with_reducible exact H)|(have H2_:=(Option.bind_some _ _).symm.trans H;rw [hy272];with_reducible exact H2_)|(have H2_:=(Option.bind_some _ _).symm.trans H;with_reducible exact H2_)|with_reducible exact H|(rw [hy272];exact H)|exact H
 have Ny272:=Am hy272
 clear hy272
 by_cases c2:y272.length + l0_0.length<4398046511104
 rotate_left
 ·rw [if_neg c2] at H
  exact absurd H (by simp)


 rw [if_pos c2] at H
 have LMc2:=Am c2
 clear c2
 obtain ⟨y275,hy275⟩:∃ y_:List (S40),y_=(y272 ++ l0_0):=⟨_,rfl⟩
 replace H:(some (y275,a0_1))=some (r1,r2):=by first|(rw [hy275];with_reducible exact H)|(have H2_:=(Option.bind_some _ _).symm.trans H;rw [hy275];with_reducible exact H2_)|(have H2_:=(Option.bind_some _ _).symm.trans H;with_reducible exact H2_)|with_reducible exact H|(rw [hy275];exact H)|exact H
 have Ny275:=Am hy275
 clear hy275
 simp only [Option.some.injEq,Prod.mk.injEq] at H
 obtain ⟨rfl,rfl⟩:=H
 go_enter Try.func40,Try.ntmps40
 try go_wp2_with (first|((with_reducible refine gate_dst (N:=1) rfl ?_);refine box_event ?hg (N:=1) ?hd (cs:=#[.slice A0_0 l0_0.length c0_0,.int .i64 a0_1]) (t:=25) ?hr ?_;(case hd=>rfl);(case hg=>rfl);(case hr=>first|(go_simp;done)|(go_simp;rfl));intro Be hg w3 hbox hb;have n0_:=Am (bP (by repeat (first|(with_reducible first|exact HB.out|apply oA|apply pN|apply o1)|exact HB.out)) hb);have n1_:=Am (hbox);have n2_:=Am ((by rw [hg];exact (bZ (by repeat (first|(with_reducible first|exact HB.out|apply oA|apply pN|apply o1)|exact HB.out))):w.heap.size≤Be));have n3_:=Am ((by rw [hg];exact (bZ (by repeat (first|(with_reducible first|exact HB.out|apply oA|apply pN|apply o1)|exact HB.out))):w.heap.size≤Be));clear HB;revert n0_ n1_ n2_ n3_;intro HB Ba Bk Bf;clear hb hbox hg)|((with_reducible refine gate_dst (N:=2) rfl ?_);refine box_event ?hg (N:=2) ?hd (cs:=#[.slice none 0 0,.int .i64 0]) (t:=25) ?hr ?_;(case hd=>rfl);(case hg=>rfl);(case hr=>first|(go_simp;done)|(go_simp;rfl));intro Bc hg w4 hbox hb;have n0_:=Am (bB (g:=Be) (o:=.cells #[.slice A0_0 l0_0.length c0_0,.int .i64 a0_1] 25 (0,0)) (bL Ba.out) hb);have n1_:=Am (bP (by repeat (first|(with_reducible first|exact HB.out|apply oA|apply pN|apply o1|refine bS ?_ Bf.out)|exact HB.out)) hb);have n2_:=Am (hbox);have n3_:=Am ((by rw [hg];exact (bZ (by repeat (first|(with_reducible first|exact HB.out|apply oA|apply pN|apply o1|refine bS ?_ Bf.out)|exact HB.out))):w.heap.size≤Bc));have n4_:=Am ((by rw [hg];exact (bZ (by repeat (first|(with_reducible first|exact HB.out|apply oA|apply pN|apply o1|refine bS ?_ Bf.out)|exact HB.out))):w.heap.size≤Bc));have n5_:=Am ((by rw [hg];exact Nat.ne_of_lt (blk_lt (g:=Be) (o:=.cells #[.slice A0_0 l0_0.length c0_0,.int .i64 a0_1] 25 (0,0)) (bL Ba.out)):Be≠Bc));have n6_:=Am ((by rw [hg];exact Nat.ne_of_gt (blk_lt (g:=Be) (o:=.cells #[.slice A0_0 l0_0.length c0_0,.int .i64 a0_1] 25 (0,0)) (bL Ba.out)):Bc≠Be));clear Ba HB;revert n0_ n1_ n2_ n3_ n4_ n5_ n6_;intro Ba HB Bb Bl Bg Bd Bh;clear hb hbox hg))
 have n0_:=Am (bD Ba.out)
 have n1_:=Am (bD Bb.out)
 have n2_:=Am (o1 HB.out)
 clear Ba
 clear Bb
 clear HB
 have Ba:=n0_
 have Bb:=n1_
 have HB:=n2_
 clear n0_ n1_ n2_
 refine start_ (n:=8) (S:=fun w'=>w'.cell? ⟨Be,0,none⟩=some (.slice A0_0 l0_0.length c0_0)∧w'.cell? ⟨Be,1,none⟩=some (.int .i64 a0_1)) (ds:=[]) z40q0 (by kernel_rfl) rfl rfl ⟨(bC Ba.out 0).trans rfl,(bC Ba.out 1).trans rfl⟩ (fun hHeld=>?_);refine with_st spec_l11Copy.tab1 spec_l11Copy.bits1 (fun _ _ _ _ _ h=>h) (fun HT_=>?_)
 generalize w4.drew=w5 at Ba Bb HB hHeld ⊢
 refine pU 1 (some 4) z40q1 HT_ rfl rfl (by kernel_rfl) (by rfl) (by intro w';go_simp;with_reducible rfl) (by simp only [Act.put,lA,lZ,lS,iw,jw];rfl) ?_
 refine pU 4 (some 7) z40q2 HT_ rfl rfl (by kernel_rfl) (by rfl) (by intro w';go_simp;with_reducible rfl) (by simp only [Act.put,lA,lZ,lS,iw,jw];rfl) ?_
 refine tU 2 (some 5) z40q3 HT_ hHeld rfl rfl (by kernel_rfl) (by rfl) (by rintro w' ⟨s0,s1⟩;go_simp;with_reducible rfl) (by simp only [Act.put,lA,lZ,lS,iw,jw];rfl) ?_
 refine tU 5 (some 8) z40q4 HT_ hHeld rfl rfl (by kernel_rfl) (by rfl) (by rintro w' ⟨s0,s1⟩;go_simp;with_reducible rfl) (by simp only [Act.put,lA,lZ,lS,iw,jw];rfl) ?_
 refine oU 0 (some 3) z40q5 HT_ rfl rfl (by kernel_rfl) (by decide) (fun K hK=>?_)
 refine Kd.R_lit_step k40 _ 40 ?hg (N:=3) ?hd (xs:=([]:List (S40))) (inner:=[]) (ok:=fun _=>True) (okp:=fun _=>True) ?hr ?hp (fun _ hk=>hk) trivial (Below.refl _ _) (Nat.le_refl _) (by simp) ?_;(case hd=>rfl);(case hg=>rfl);(case hr=>first|(go_simp;done)|(go_simp;rfl));(case hp=>exact (Reps.none _ _))
 intro v273 w6 ho7 hb hg_ hnew_
 clear hg_ hnew_
 (first|rw [← Ny272.out] at ho7|(simp only [Int.reduceToNat] at ho7;rw [← Ny272.out] at ho7))
 have n0_:=Am (Kd.R_lower ho7 (bZ (by repeat (first|(with_reducible first|exact HB.out|apply oA|apply pN|apply o1|refine bS ?_ Bf.out|refine bS ?_ Bg.out)|exact HB.out))))
 have n1_:=Am (bB (g:=Be) (o:=.cells #[.slice A0_0 l0_0.length c0_0,.int .i64 a0_1] 25 (0,0)) (bL Ba.out) hb)
 have n2_:=Am (bB (g:=Bc) (o:=.cells #[.slice none 0 0,.int .i64 0] 25 (0,0)) (bL Bb.out) hb)
 have n3_:=Am (bP (by repeat (first|(with_reducible first|exact HB.out|apply oA|apply pN|apply o1|refine bS ?_ Bf.out|refine bS ?_ Bg.out)|exact HB.out)) hb)
 clear Ba
 clear Bb
 clear HB
 have Bi:=n0_
 have Ba:=n1_
 have Bb:=n2_
 have HB:=n3_
 clear n0_ n1_ n2_ n3_
 clear hb ho7
 refine hK.out _ _ ⟨(bC Ba.out 0).trans rfl,(bC Ba.out 1).trans rfl⟩ (fun hHeld=>?_)
 clear hK K
 refine norm_ (by show Act.put _ (some 3) _=_;simp only [Act.put,lA,lZ,lS,iw,jw];rfl) ?_
 refine oU 3 (some 6) z40q6 HT_ rfl rfl (by kernel_rfl) (by decide) (fun K hK=>?_)
 refine Kd.R_append_rows_step k40 (w0:=w) w.heap.size (by rfl) (.tmp 3) (.tmp 5) 23 40 (.agg #[(.int .i64 0),(.int .i64 0),(.int .i64 0),(.bool false)]) 32 rfl Try.underlying23 info40 rfl (by decide) (by omega) v273 y272 l0_0 _ _ _ (fun _=>True) (fun _=>False) rfl rfl ?aO ?aR (fun _ _ h=>h) (fun _ h=>h.elim) ?aF ?aB ?aS ?aL ?_
 (case aR=>repeat (first|exact (cB HR0_0.out HB.out)|(with_reducible refine cA ?_ _)|(with_reducible refine cN ?_ _)|(with_reducible refine cD ?_)))
 (case aB=>exact (by repeat (first|(with_reducible first|exact HB.out|apply oA|apply pN|apply o1|refine bS ?_ Bf.out|refine bS ?_ Bg.out)|exact HB.out)))
 (case aF=>exact (fun _ _=>trivial))
 (case aO=>exact (rL Bi.out))
 (case aS=>exact (bZ (by repeat (first|(with_reducible first|exact HB.out|apply oA|apply pN|apply o1|refine bS ?_ Bf.out|refine bS ?_ Bg.out)|exact HB.out))))
 (case aL=>have:=LMc2.out;omega)
 intro v276 w8 ho hb hg hat
 rw [← Ny275.out] at ho
 have n0_:=Am (blk_grown (g:=Be) (o:=.cells #[.slice A0_0 l0_0.length c0_0,.int .i64 a0_1] 25 (0,0)) (bL Ba.out) hg (Kd.R_ne Bi.out Ba.out (by decide)))
 have n1_:=Am (blk_grown (g:=Bc) (o:=.cells #[.slice none 0 0,.int .i64 0] 25 (0,0)) (bL Bb.out) hg (Kd.R_ne Bi.out Bb.out (by decide)))
 have n2_:=Am (hb)
 have n3_:=Am (ho)
 clear Ba
 clear Bb
 clear HB
 clear Bi
 have Ba:=n0_
 have Bb:=n1_
 have HB:=n2_
 have Bj:=n3_
 clear n0_ n1_ n2_ n3_
 clear ho hb hg hat
 obtain ⟨Ao9,co9,eo9⟩:=Kd.R_slice Bj.out
 (first|subst eo9|(injection eo9 with f1_ f2_ f3_;have f4_:=f1_.symm;have f5_:=f3_.symm;clear f1_ f2_ f3_;subst f4_;subst f5_))
 refine hK.out _ _ ⟨(bC Ba.out 0).trans rfl,(bC Ba.out 1).trans rfl⟩ (fun hHeld=>?_)
 clear hK K
 refine norm_ (by show Act.put _ (some 6) _=_;simp only [Act.put,lA,lZ,lS,iw,jw];rfl) ?_
 refine pU 6 (some 9) z40q7 HT_ rfl rfl (by kernel_rfl) (by rfl) (by intro w';go_simp;with_reducible rfl) (by simp only [Act.put,lA,lZ,lS,iw,jw];rfl) ?_
 refine oU 7 none z40q8 HT_ rfl rfl (by kernel_rfl) (by decide) (fun K hK=>?_)
 have hs10:w8.cell? ⟨Bc,0,none⟩=some (.slice none 0 0):=(bC Bb.out 0).trans rfl
 have hfs10:=bF Bb.out 0
 have hns10_0:=Bd.out
 have hms10_0:=Bh.out
 have hs11:w8.cell? ⟨Bc,1,none⟩=some (.int .i64 0):=(bC Bb.out 1).trans rfl
 have hfs11:=bF Bb.out 1
 have hns11_0:=Bd.out
 have hms11_0:=Bh.out
 refine skip_ (w1:=?_) (by rfl) rfl ?_ ?_
 rotate_left;(go_simp;rfl)
 refine hK.out _ _ ⟨((cell_far (p:=⟨Bc,_,none⟩) Bd.out _).trans (((cell_far (p:=⟨Bc,_,none⟩) Bd.out _).trans (hHeld.1)))),((cell_far (p:=⟨Bc,_,none⟩) Bd.out _).trans (((cell_far (p:=⟨Bc,_,none⟩) Bd.out _).trans (hHeld.2))))⟩ (fun hHeld=>?_)
 clear hK K
 refine done_ (done_of HT_.out (by kernel_rfl)) ?_
 try go_wp2
 refine bodyPost_ret (results_cell_row rfl _ _ Bc 25 #[.slice Ao9 y275.length co9,.int .i64 a0_1] (0,0) _ rfl (by (with_reducible repeat (first|refine bN ?_ _|refine bD ?_|refine bA ?_ _));refine blk_put (cs:=#[.slice Ao9 y275.length co9,.int .i64 0]) ?_ 1 _ rfl;(with_reducible repeat (first|refine bN ?_ _|refine bD ?_|refine bA ?_ _));refine blk_put (cs:=#[.slice none 0 0,.int .i64 0]) ?_ 0 _ rfl;(with_reducible repeat (first|refine bN ?_ _|refine bD ?_|refine bA ?_ _));exact Bb.out) Try.underlying25 rfl (by kernel_rfl)) rfl ?_
 exact ⟨_,by first|rfl|(simp [errW_none,errW_some] <;> rfl)|(simp [*,errW_none,errW_some] <;> rfl),by (with_reducible repeat (first|apply rA|apply rN|apply rD));exact rM (rF (p:=⟨Bc,1,none⟩) (rF (p:=⟨Bc,0,none⟩) (rT Bj.out Bb.out (by decide)) (fun _ hk=>hk.2) (.slice Ao9 y275.length co9)) (fun _ hk=>hk.2) (.int .i64 a0_1)) (fun _ hk=>trivial),by repeat (first|(with_reducible first|exact HB.out|apply oA|apply pN|apply o1|refine bS ?_ Bf.out|refine bS ?_ Bg.out)|exact HB.out)⟩/-! ### spec_QueueTick: function 22 -/
def spec_QueueTick.f (k : Nat) (l0_0 : List (S40)) (a0_1 : Int) : Option ((List (S40)) × Int × Int × Bool) := (spec_QueueOk.f k l0_0 a0_1).bind fun t280 => (if t280 = true then ((spec_l11Copy.f l0_0 a0_1).bind fun bt281 => ((spec_l11Tick.f k bt281.1 bt281.2).bind fun bt285 => (if bt285.2.2 < 0 then (some (([] : List (S40)), 0, (-1), false)) else (some (bt285.1, bt285.2.1, bt285.2.2, true))))) else (some (([] : List (S40)), 0, (-1), false)))
theorem spec_QueueTick.mono : ∀ a0 a1 k, LeO (spec_QueueTick.f k a0 a1) (spec_QueueTick.f (k + 1) a0 a1) := by
 intro a0 a1 k
 unfold spec_QueueTick.f
 repeat' first
  |(with_reducible exact spec_QueueOk.mono _ _ _)
  |(with_reducible exact spec_l11Tick.mono _ _ _)
  |(with_reducible exact LeO.refl _)
  |(with_reducible exact LeO.none _)
  |(with_reducible refine LeO.ite ?_ ?_)
  |(with_reducible refine LeO.bind ?_ (fun _ => ?_))
  |exact spec_QueueOk.mono _ _ _
  |exact spec_l11Tick.mono _ _ _
  |exact LeO.none _
  |refine LeO.ite ?_ ?_
  |refine LeO.bind ?_ (fun _ => ?_)
set_option maxHeartbeats 2000000 in
set_option maxRecDepth 100000 in
theorem spec_QueueTick.calls (k:Nat) (A0_0:Option Addr) (c0_0:Nat) (l0_0:List (S40)) (a0_1:Int) (r1:List (S40)) (r2:Int) (r3:Int) (r4:Bool) (w:World) (hr0_0:Kd.C k40 w A0_0 l0_0.length l0_0) (hc0_0:l0_0.length≤c0_0) (h:spec_QueueTick.f k l0_0 a0_1=some (r1,r2,r3,r4)) :
  Calls Try.prog 22 #[.agg #[.slice A0_0 l0_0.length c0_0,.int .i64 a0_1]] w fun e w'=>∃ v0_:Value,e=.returned (.tuple #[.agg #[v0_,.int .i64 r2],.int .i64 r3,.bool r4])∧Kd.R k40 40 w' w.heap.size (fun _=>True) v0_ r1∧Below w.heap.size w w':=by
 have hu25:=Try.underlying25
 have HR0_0:=Am hr0_0
 have HC0_0:=Am hc0_0
 clear hr0_0 hc0_0
 have HB:=Am (Below.refl w.heap.size w)
 have H:((spec_QueueOk.f k l0_0 a0_1).bind fun t280=>(if t280=true then ((spec_l11Copy.f l0_0 a0_1).bind fun bt281=>((spec_l11Tick.f k bt281.1 bt281.2).bind fun bt285=>(if bt285.2.2<0 then (some (([]:List (S40)),0,(-1),false)) else (some (bt285.1,bt285.2.1,bt285.2.2,true))))) else (some (([]:List (S40)),0,(-1),false))))=some (r1,r2,r3,r4):=h
 clear h
 replace H:=oC H
 obtain ⟨t280,A20,H⟩:=H
 replace H:(if t280=true then ((spec_l11Copy.f l0_0 a0_1).bind fun bt281=>((spec_l11Tick.f k bt281.1 bt281.2).bind fun bt285=>(if bt285.2.2<0 then (some (([]:List (S40)),0,(-1),false)) else (some (bt285.1,bt285.2.1,bt285.2.2,true))))) else (some (([]:List (S40)),0,(-1),false)))=some (r1,r2,r3,r4):=H
 have A2:=Am A20
 clear A20
 by_cases c3:t280=true
 rotate_left
 ·replace c3:=Bool.eq_false_iff.mpr c3
  subst c3
  have H1:(some (([]:List (S40)),0,(-1),false))=some (r1,r2,r3,r4):=by rw [if_neg (show ¬ (false=true) by decide)] at H;exact H
  clear H
  have H:=H1
  clear H1
  simp only [Option.some.injEq,Prod.mk.injEq] at H
  obtain ⟨rfl,rfl,rfl,rfl⟩:=H
  go_enter Try.func22,Try.ntmps22
  go_wp2_with (first|((with_reducible refine gate_dst (N:=1) rfl ?_);refine box_event ?hg (N:=1) ?hd (cs:=#[.slice A0_0 l0_0.length c0_0,.int .i64 a0_1]) (t:=25) ?hr ?_;(case hd=>rfl);(case hg=>rfl);(case hr=>first|(go_simp;done)|(go_simp;rfl));intro Bc hg w37 hbox hb;have n0_:=Am (bP (by repeat (first|(with_reducible first|exact HB.out|apply oA|apply pN|apply o1)|exact HB.out)) hb);have n1_:=Am (hbox);have n2_:=Am ((by rw [hg];exact (bZ (by repeat (first|(with_reducible first|exact HB.out|apply oA|apply pN|apply o1)|exact HB.out))):w.heap.size≤Bc));have n3_:=Am ((by rw [hg];exact (bZ (by repeat (first|(with_reducible first|exact HB.out|apply oA|apply pN|apply o1)|exact HB.out))):w.heap.size≤Bc));clear HB;revert n0_ n1_ n2_ n3_;intro HB Ba Br Be;clear hb hbox hg)|((with_reducible refine gate_dst (N:=2) rfl ?_);refine box_event ?hg (N:=2) ?hd (cs:=#[.slice none 0 0,.int .i64 0]) (t:=25) ?hr ?_;(case hd=>rfl);(case hg=>rfl);(case hr=>first|(go_simp;done)|(go_simp;rfl));intro Bd hg w38 hbox hb;have n0_:=Am (bB (g:=Bc) (o:=.cells #[.slice A0_0 l0_0.length c0_0,.int .i64 a0_1] 25 (0,0)) (bL Ba.out) hb);have n1_:=Am (bP (by repeat (first|(with_reducible first|exact HB.out|apply oA|apply pN|apply o1|refine bS ?_ Be.out)|exact HB.out)) hb);have n2_:=Am (hbox);have n3_:=Am ((by rw [hg];exact (bZ (by repeat (first|(with_reducible first|exact HB.out|apply oA|apply pN|apply o1|refine bS ?_ Be.out)|exact HB.out))):w.heap.size≤Bd));have n4_:=Am ((by rw [hg];exact (bZ (by repeat (first|(with_reducible first|exact HB.out|apply oA|apply pN|apply o1|refine bS ?_ Be.out)|exact HB.out))):w.heap.size≤Bd));have n5_:=Am ((by rw [hg];exact Nat.ne_of_lt (blk_lt (g:=Bc) (o:=.cells #[.slice A0_0 l0_0.length c0_0,.int .i64 a0_1] 25 (0,0)) (bL Ba.out)):Bc≠Bd));have n6_:=Am ((by rw [hg];exact Nat.ne_of_gt (blk_lt (g:=Bc) (o:=.cells #[.slice A0_0 l0_0.length c0_0,.int .i64 a0_1] 25 (0,0)) (bL Ba.out)):Bd≠Bc));clear Ba HB;revert n0_ n1_ n2_ n3_ n4_ n5_ n6_;intro Ba HB Bb Bs Bf Bk Bl;clear hb hbox hg;have Di:=Bk.out;have Dj:=Bl.out;have B0:w38.cell? ⟨Bc,0,none⟩=some (.slice A0_0 l0_0.length c0_0):=(bC Ba.out 0).trans rfl;have B1:w38.cell? ⟨Bc,1,none⟩=some (.int .i64 a0_1):=(bC Ba.out 1).trans rfl;have B2:=bF Ba.out 0;have B3:=bF Ba.out 1)|((with_reducible refine gate_callee (f:=18) rfl ?_);refine goesL_ (some 8) rfl rfl Try.func18 (by kernel_rfl) rfl #[.agg #[.slice A0_0 l0_0.length c0_0,.int .i64 a0_1]] rfl (by (try simp only [lM,lC,lN]);first|done|rfl|(simp only [lD,lT];rfl)) ?_;(with_reducible refine (spec_QueueOk.calls k _ _ l0_0 a0_1 false _ ?side1 ?side2 A2.out).mono ?_);(case side1=>repeat (first|exact (cB HR0_0.out HB.out)|(with_reducible refine cA ?_ _)|(with_reducible refine cN ?_ _)|(with_reducible refine cD ?_)));(case side2=>exact HC0_0.out);rintro e w41 ⟨rfl,hb⟩;refine ⟨_,rfl,?_⟩;have n0_:=Am (bB (g:=Bc) (o:=.cells #[.slice A0_0 l0_0.length c0_0,.int .i64 a0_1] 25 (0,0)) (bL Ba.out) hb);have n1_:=Am (bB (g:=Bd) (o:=.cells #[.slice none 0 0,.int .i64 0] 25 (0,0)) (bL Bb.out) hb);have n2_:=Am (bP (by repeat (first|(with_reducible first|exact HB.out|apply oA|apply pN|apply o1|refine bS ?_ Be.out|refine bS ?_ Bf.out)|exact HB.out)) hb);clear Ba Bb HB;revert n0_ n1_ n2_;intro Ba Bb HB;(try clear hb);(try clear hb2);(try clear hk);(try clear hi);have B4:w41.cell? ⟨Bd,0,none⟩=some (.slice none 0 0):=(bC Bb.out 0).trans rfl;have B5:w41.cell? ⟨Bd,1,none⟩=some (.int .i64 0):=(bC Bb.out 1).trans rfl;have B6:=bF Bb.out 0;have B7:=bF Bb.out 1))
  refine bodyPost_ret (results_ctt rfl _ _ Bd 25 #[.slice none 0 0,.int .i64 0] (0,0) _ rfl (by (with_reducible repeat (first|refine bN ?_ _|refine bD ?_|refine bA ?_ _));refine blk_put (cs:=#[.slice none 0 0,.int .i64 0]) ?_ 1 _ rfl;(with_reducible repeat (first|refine bN ?_ _|refine bD ?_|refine bA ?_ _));refine blk_put (cs:=#[.slice none 0 0,.int .i64 0]) ?_ 0 _ rfl;(with_reducible repeat (first|refine bN ?_ _|refine bD ?_|refine bA ?_ _));exact Bb.out) Try.underlying25 rfl (by kernel_rfl)) rfl ?_
  exact ⟨_,by first|rfl|(simp [errW_none,errW_some] <;> rfl)|(simp [*,errW_none,errW_some] <;> rfl),by first|exact Kd.R_nil _ _ _ _ _|exact Kd.N_nil _ _ _ _ _|exact Kd.V_nil _ _ _ _ _|exact Kd.Q_nil _ _ _ _ _|exact Kd.S_nil _ _ _ _ _,by repeat (first|(with_reducible first|exact HB.out|apply oA|apply pN|apply o1|refine bS ?_ Be.out|refine bS ?_ Bf.out)|exact HB.out)⟩


 subst c3
 have H1:((spec_l11Copy.f l0_0 a0_1).bind fun bt281=>((spec_l11Tick.f k bt281.1 bt281.2).bind fun bt285=>(if bt285.2.2<0 then (some (([]:List (S40)),0,(-1),false)) else (some (bt285.1,bt285.2.1,bt285.2.2,true)))))=some (r1,r2,r3,r4):=by rw [if_pos rfl] at H;exact H
 clear H
 have H:=H1
 clear H1
 replace H:=oC H
 obtain ⟨⟨t281,t284⟩,A40,H⟩:=H
 replace H:((spec_l11Tick.f k t281 t284).bind fun bt285=>(if bt285.2.2<0 then (some (([]:List (S40)),0,(-1),false)) else (some (bt285.1,bt285.2.1,bt285.2.2,true))))=some (r1,r2,r3,r4):=H
 have A4:=Am A40
 clear A40
 replace H:=oC H
 obtain ⟨⟨t285,t288,t289⟩,A50,H⟩:=H
 replace H:(if t289<0 then (some (([]:List (S40)),0,(-1),false)) else (some (t285,t288,t289,true)))=some (r1,r2,r3,r4):=H
 have A5:=Am A50
 clear A50
 by_cases c6:t289<0
 ·rw [if_pos c6] at H
  have c6b0:decide (t289<0)=true:=decide_eq_true c6
  clear c6
  simp only [Option.some.injEq,Prod.mk.injEq] at H
  obtain ⟨rfl,rfl,rfl,rfl⟩:=H
  go_enter Try.func22,Try.ntmps22
  go_wp2_with (first|((with_reducible refine gate_dst (N:=1) rfl ?_);refine box_event ?hg (N:=1) ?hd (cs:=#[.slice A0_0 l0_0.length c0_0,.int .i64 a0_1]) (t:=25) ?hr ?_;(case hd=>rfl);(case hg=>rfl);(case hr=>first|(go_simp;done)|(go_simp;rfl));intro Bc hg w7 hbox hb;have n0_:=Am (bP (by repeat (first|(with_reducible first|exact HB.out|apply oA|apply pN|apply o1)|exact HB.out)) hb);have n1_:=Am (hbox);have n2_:=Am ((by rw [hg];exact (bZ (by repeat (first|(with_reducible first|exact HB.out|apply oA|apply pN|apply o1)|exact HB.out))):w.heap.size≤Bc));have n3_:=Am ((by rw [hg];exact (bZ (by repeat (first|(with_reducible first|exact HB.out|apply oA|apply pN|apply o1)|exact HB.out))):w.heap.size≤Bc));clear HB;revert n0_ n1_ n2_ n3_;intro HB Ba Br Be;clear hb hbox hg)|((with_reducible refine gate_dst (N:=2) rfl ?_);refine box_event ?hg (N:=2) ?hd (cs:=#[.slice none 0 0,.int .i64 0]) (t:=25) ?hr ?_;(case hd=>rfl);(case hg=>rfl);(case hr=>first|(go_simp;done)|(go_simp;rfl));intro Bd hg w8 hbox hb;have n0_:=Am (bB (g:=Bc) (o:=.cells #[.slice A0_0 l0_0.length c0_0,.int .i64 a0_1] 25 (0,0)) (bL Ba.out) hb);have n1_:=Am (bP (by repeat (first|(with_reducible first|exact HB.out|apply oA|apply pN|apply o1|refine bS ?_ Be.out)|exact HB.out)) hb);have n2_:=Am (hbox);have n3_:=Am ((by rw [hg];exact (bZ (by repeat (first|(with_reducible first|exact HB.out|apply oA|apply pN|apply o1|refine bS ?_ Be.out)|exact HB.out))):w.heap.size≤Bd));have n4_:=Am ((by rw [hg];exact (bZ (by repeat (first|(with_reducible first|exact HB.out|apply oA|apply pN|apply o1|refine bS ?_ Be.out)|exact HB.out))):w.heap.size≤Bd));have n5_:=Am ((by rw [hg];exact Nat.ne_of_lt (blk_lt (g:=Bc) (o:=.cells #[.slice A0_0 l0_0.length c0_0,.int .i64 a0_1] 25 (0,0)) (bL Ba.out)):Bc≠Bd));have n6_:=Am ((by rw [hg];exact Nat.ne_of_gt (blk_lt (g:=Bc) (o:=.cells #[.slice A0_0 l0_0.length c0_0,.int .i64 a0_1] 25 (0,0)) (bL Ba.out)):Bd≠Bc));clear Ba HB;revert n0_ n1_ n2_ n3_ n4_ n5_ n6_;intro Ba HB Bb Bs Bf Bk Bl;clear hb hbox hg;have Dk:=Bk.out;have Dl:=Bl.out;have Bu:w8.cell? ⟨Bc,0,none⟩=some (.slice A0_0 l0_0.length c0_0):=(bC Ba.out 0).trans rfl;have Bv:w8.cell? ⟨Bc,1,none⟩=some (.int .i64 a0_1):=(bC Ba.out 1).trans rfl;have Bw:=bF Ba.out 0;have Bx:=bF Ba.out 1)|((with_reducible refine gate_callee (f:=18) rfl ?_);refine goesL_ (some 8) rfl rfl Try.func18 (by kernel_rfl) rfl #[.agg #[.slice A0_0 l0_0.length c0_0,.int .i64 a0_1]] rfl (by (try simp only [lM,lC,lN]);first|done|rfl|(simp only [lD,lT];rfl)) ?_;(with_reducible refine (spec_QueueOk.calls k _ _ l0_0 a0_1 true _ ?side1 ?side2 A2.out).mono ?_);(case side1=>repeat (first|exact (cB HR0_0.out HB.out)|(with_reducible refine cA ?_ _)|(with_reducible refine cN ?_ _)|(with_reducible refine cD ?_)));(case side2=>exact HC0_0.out);rintro e w11 ⟨rfl,hb⟩;refine ⟨_,rfl,?_⟩;have n0_:=Am (bB (g:=Bc) (o:=.cells #[.slice A0_0 l0_0.length c0_0,.int .i64 a0_1] 25 (0,0)) (bL Ba.out) hb);have n1_:=Am (bB (g:=Bd) (o:=.cells #[.slice none 0 0,.int .i64 0] 25 (0,0)) (bL Bb.out) hb);have n2_:=Am (bP (by repeat (first|(with_reducible first|exact HB.out|apply oA|apply pN|apply o1|refine bS ?_ Be.out|refine bS ?_ Bf.out)|exact HB.out)) hb);clear Ba Bb HB;revert n0_ n1_ n2_;intro Ba Bb HB;(try clear hb);(try clear hb2);(try clear hk);(try clear hi);have By:w11.cell? ⟨Bc,0,none⟩=some (.slice A0_0 l0_0.length c0_0):=(bC Ba.out 0).trans rfl;have Bz:w11.cell? ⟨Bc,1,none⟩=some (.int .i64 a0_1):=(bC Ba.out 1).trans rfl;have BA:=bF Ba.out 0;have BB:=bF Ba.out 1)|((with_reducible refine gate_callee (f:=40) rfl ?_);refine goesL_ (some 13) rfl rfl Try.func40 (by kernel_rfl) rfl #[.agg #[.slice A0_0 l0_0.length c0_0,.int .i64 a0_1]] rfl (by (try simp only [lM,lC,lN]);first|done|rfl|(simp only [lD,lT];rfl)) ?_;(with_reducible refine (spec_l11Copy.calls _ _ l0_0 a0_1 t281 t284 _ ?side1 ?side2 A4.out).mono ?_);(case side1=>repeat (first|exact (cB HR0_0.out HB.out)|(with_reducible refine cA ?_ _)|(with_reducible refine cN ?_ _)|(with_reducible refine cD ?_)));(case side2=>exact HC0_0.out);rintro e w13 ⟨v282,rfl,ho0,hb⟩;refine ⟨_,rfl,?_⟩;have n0_:=Am (Kd.R_lower ho0 (bZ (by repeat (first|(with_reducible first|exact HB.out|apply oA|apply pN|apply o1|refine bS ?_ Be.out|refine bS ?_ Bf.out)|exact HB.out))));have n1_:=Am (bB (g:=Bc) (o:=.cells #[.slice A0_0 l0_0.length c0_0,.int .i64 a0_1] 25 (0,0)) (bL Ba.out) hb);have n2_:=Am (bB (g:=Bd) (o:=.cells #[.slice none 0 0,.int .i64 0] 25 (0,0)) (bL Bb.out) hb);have n3_:=Am (bP (by repeat (first|(with_reducible first|exact HB.out|apply oA|apply pN|apply o1|refine bS ?_ Be.out|refine bS ?_ Bf.out)|exact HB.out)) hb);clear Ba Bb HB;revert n0_ n1_ n2_ n3_;intro Bh Ba Bb HB;(try clear hb);(try clear hb2);(try clear hk);(try clear hi);(try clear ho0);obtain ⟨Ao14,co14,eo14⟩:=Kd.R_slice Bh.out;subst eo14)|((with_reducible refine gate_callee (f:=44) rfl ?_);refine goesL_ (some 14) rfl rfl Try.func44 (by kernel_rfl) rfl #[.agg #[.slice Ao14 t281.length co14,.int .i64 t284]] rfl (by (try simp only [lM,lC,lN]);first|done|rfl|(simp only [lD,lT];rfl)) ?_;(with_reducible refine (spec_l11Tick.calls k (fun k_=>some k_=(.slice Ao14 t281.length co14:Value).ownBlock) (.slice Ao14 t281.length co14) t281 t284 t285 t288 t289 w _ ?side1 ?side2 A5.out).mono ?_);(case side1=>repeat (first|(with_reducible first|exact HB.out|apply oA|apply pN|apply o1|refine bS ?_ Be.out|refine bS ?_ Bf.out)|exact HB.out));(case side2=>exact Kd.R_tight rfl Bh.out);rintro e w15 ⟨v286,rfl,ho0,hb,hkp⟩;refine ⟨_,rfl,?_⟩;have n0_:=Am (blk_kept (bL Ba.out) hkp (fun hs_=>(fun e_=>(Kd.R_ne Bh.out Ba.out (by decide)) e_) hs_));have n1_:=Am (blk_kept (bL Bb.out) hkp (fun hs_=>(fun e_=>(Kd.R_ne Bh.out Bb.out (by decide)) e_) hs_));have n2_:=Am (rM (ok':=fun k_=>True) ho0 (fun k_ hk_=>trivial));have n3_:=Am (hb);clear Ba Bb HB Bh;revert n0_ n1_ n2_ n3_;intro Ba Bb Bi HB;(try clear hb);(try clear hkp);(try clear ho0))|((with_reducible refine gate_dst (N:=5) rfl ?_);refine box_event ?hg (N:=5) ?hd (cs:=#[.slice none 0 0,.int .i64 0]) (t:=25) ?hr ?_;(case hd=>rfl);(case hg=>rfl);(case hr=>first|(go_simp;done)|(go_simp;rfl));intro Bg hg w16 hbox hb;have n0_:=Am (rB (rL Bi.out) hb);have n1_:=Am (bB (g:=Bc) (o:=.cells #[.slice A0_0 l0_0.length c0_0,.int .i64 a0_1] 25 (0,0)) (bL Ba.out) hb);have n2_:=Am (bB (g:=Bd) (o:=.cells #[.slice none 0 0,.int .i64 0] 25 (0,0)) (bL Bb.out) hb);have n3_:=Am (bP (by repeat (first|(with_reducible first|exact HB.out|apply oA|apply pN|apply o1|refine bS ?_ Be.out|refine bS ?_ Bf.out)|exact HB.out)) hb);have n4_:=Am (hbox);have n5_:=Am ((by rw [hg];exact (bZ (by repeat (first|(with_reducible first|exact HB.out|apply oA|apply pN|apply o1|refine bS ?_ Be.out|refine bS ?_ Bf.out)|exact HB.out))):w.heap.size≤Bg));have n6_:=Am ((by rw [hg];exact (bZ (by repeat (first|(with_reducible first|exact HB.out|apply oA|apply pN|apply o1|refine bS ?_ Be.out|refine bS ?_ Bf.out)|exact HB.out))):w.heap.size≤Bg));have n7_:=Am ((by rw [hg];exact Nat.ne_of_lt (blk_lt (g:=Bc) (o:=.cells #[.slice A0_0 l0_0.length c0_0,.int .i64 a0_1] 25 (0,0)) (bL Ba.out)):Bc≠Bg));have n8_:=Am ((by rw [hg];exact Nat.ne_of_gt (blk_lt (g:=Bc) (o:=.cells #[.slice A0_0 l0_0.length c0_0,.int .i64 a0_1] 25 (0,0)) (bL Ba.out)):Bg≠Bc));have n9_:=Am ((by rw [hg];exact Nat.ne_of_lt (blk_lt (g:=Bd) (o:=.cells #[.slice none 0 0,.int .i64 0] 25 (0,0)) (bL Bb.out)):Bd≠Bg));have n10_:=Am ((by rw [hg];exact Nat.ne_of_gt (blk_lt (g:=Bd) (o:=.cells #[.slice none 0 0,.int .i64 0] 25 (0,0)) (bL Bb.out)):Bg≠Bd));clear Bi Ba Bb HB;revert n0_ n1_ n2_ n3_ n4_ n5_ n6_ n7_ n8_ n9_ n10_;intro Bi Ba Bb HB Bj Bt Bq Bn Bo Bm Bp;clear hb hbox hg;obtain ⟨Ao17,co17,eo17⟩:=Kd.R_slice Bi.out;subst eo17;have B8:=Bo.out;have B9:=Bn.out;have Da:=Bp.out;have Db:=Bm.out;have BC:w16.cell? ⟨Bg,0,none⟩=some (.slice none 0 0):=(bC Bj.out 0).trans rfl;have BD:w16.cell? ⟨Bg,1,none⟩=some (.int .i64 0):=(bC Bj.out 1).trans rfl;have BE:=bF Bj.out 0;have BF:=bF Bj.out 1;have BG:w16.cell? ⟨Bd,0,none⟩=some (.slice none 0 0):=(bC Bb.out 0).trans rfl;have BH:w16.cell? ⟨Bd,1,none⟩=some (.int .i64 0):=(bC Bb.out 1).trans rfl;have BI:=bF Bb.out 0;have BJ:=bF Bb.out 1))
  refine bodyPost_ret (results_ctt rfl _ _ Bd 25 #[.slice none 0 0,.int .i64 0] (0,0) _ rfl (by (with_reducible repeat (first|refine bN ?_ _|refine bD ?_|refine bA ?_ _));refine blk_put (cs:=#[.slice none 0 0,.int .i64 0]) ?_ 1 _ rfl;(with_reducible repeat (first|refine bN ?_ _|refine bD ?_|refine bA ?_ _));refine blk_put (cs:=#[.slice none 0 0,.int .i64 0]) ?_ 0 _ rfl;(with_reducible repeat (first|refine bN ?_ _|refine bD ?_|refine bA ?_ _|refine blk_far ?_ Bm.out _));exact Bb.out) Try.underlying25 rfl (by kernel_rfl)) rfl ?_
  exact ⟨_,by first|rfl|(simp [errW_none,errW_some] <;> rfl)|(simp [*,errW_none,errW_some] <;> rfl),by first|exact Kd.R_nil _ _ _ _ _|exact Kd.N_nil _ _ _ _ _|exact Kd.V_nil _ _ _ _ _|exact Kd.Q_nil _ _ _ _ _|exact Kd.S_nil _ _ _ _ _,by repeat (first|(with_reducible first|exact HB.out|apply oA|apply pN|apply o1|refine bS ?_ Be.out|refine bS ?_ Bf.out|refine bS ?_ Bq.out)|exact HB.out)⟩
 rw [if_neg c6] at H
 have c6b0:decide (t289<0)=false:=decide_eq_false c6
 clear c6
 simp only [Option.some.injEq,Prod.mk.injEq] at H
 obtain ⟨rfl,rfl,rfl,rfl⟩:=H
 go_enter Try.func22,Try.ntmps22
 go_wp2_with (first|((with_reducible refine gate_dst (N:=1) rfl ?_);refine box_event ?hg (N:=1) ?hd (cs:=#[.slice A0_0 l0_0.length c0_0,.int .i64 a0_1]) (t:=25) ?hr ?_;(case hd=>rfl);(case hg=>rfl);(case hr=>first|(go_simp;done)|(go_simp;rfl));intro Bc hg w22 hbox hb;have n0_:=Am (bP (by repeat (first|(with_reducible first|exact HB.out|apply oA|apply pN|apply o1)|exact HB.out)) hb);have n1_:=Am (hbox);have n2_:=Am ((by rw [hg];exact (bZ (by repeat (first|(with_reducible first|exact HB.out|apply oA|apply pN|apply o1)|exact HB.out))):w.heap.size≤Bc));have n3_:=Am ((by rw [hg];exact (bZ (by repeat (first|(with_reducible first|exact HB.out|apply oA|apply pN|apply o1)|exact HB.out))):w.heap.size≤Bc));clear HB;revert n0_ n1_ n2_ n3_;intro HB Ba Br Be;clear hb hbox hg)|((with_reducible refine gate_dst (N:=2) rfl ?_);refine box_event ?hg (N:=2) ?hd (cs:=#[.slice none 0 0,.int .i64 0]) (t:=25) ?hr ?_;(case hd=>rfl);(case hg=>rfl);(case hr=>first|(go_simp;done)|(go_simp;rfl));intro Bd hg w23 hbox hb;have n0_:=Am (bB (g:=Bc) (o:=.cells #[.slice A0_0 l0_0.length c0_0,.int .i64 a0_1] 25 (0,0)) (bL Ba.out) hb);have n1_:=Am (bP (by repeat (first|(with_reducible first|exact HB.out|apply oA|apply pN|apply o1|refine bS ?_ Be.out)|exact HB.out)) hb);have n2_:=Am (hbox);have n3_:=Am ((by rw [hg];exact (bZ (by repeat (first|(with_reducible first|exact HB.out|apply oA|apply pN|apply o1|refine bS ?_ Be.out)|exact HB.out))):w.heap.size≤Bd));have n4_:=Am ((by rw [hg];exact (bZ (by repeat (first|(with_reducible first|exact HB.out|apply oA|apply pN|apply o1|refine bS ?_ Be.out)|exact HB.out))):w.heap.size≤Bd));have n5_:=Am ((by rw [hg];exact Nat.ne_of_lt (blk_lt (g:=Bc) (o:=.cells #[.slice A0_0 l0_0.length c0_0,.int .i64 a0_1] 25 (0,0)) (bL Ba.out)):Bc≠Bd));have n6_:=Am ((by rw [hg];exact Nat.ne_of_gt (blk_lt (g:=Bc) (o:=.cells #[.slice A0_0 l0_0.length c0_0,.int .i64 a0_1] 25 (0,0)) (bL Ba.out)):Bd≠Bc));clear Ba HB;revert n0_ n1_ n2_ n3_ n4_ n5_ n6_;intro Ba HB Bb Bs Bf Bk Bl;clear hb hbox hg;have Dc:=Bk.out;have Dd:=Bl.out;have BK:w23.cell? ⟨Bc,0,none⟩=some (.slice A0_0 l0_0.length c0_0):=(bC Ba.out 0).trans rfl;have BL:w23.cell? ⟨Bc,1,none⟩=some (.int .i64 a0_1):=(bC Ba.out 1).trans rfl;have BM:=bF Ba.out 0;have BN:=bF Ba.out 1)|((with_reducible refine gate_callee (f:=18) rfl ?_);refine goesL_ (some 8) rfl rfl Try.func18 (by kernel_rfl) rfl #[.agg #[.slice A0_0 l0_0.length c0_0,.int .i64 a0_1]] rfl (by (try simp only [lM,lC,lN]);first|done|rfl|(simp only [lD,lT];rfl)) ?_;(with_reducible refine (spec_QueueOk.calls k _ _ l0_0 a0_1 true _ ?side1 ?side2 A2.out).mono ?_);(case side1=>repeat (first|exact (cB HR0_0.out HB.out)|(with_reducible refine cA ?_ _)|(with_reducible refine cN ?_ _)|(with_reducible refine cD ?_)));(case side2=>exact HC0_0.out);rintro e w26 ⟨rfl,hb⟩;refine ⟨_,rfl,?_⟩;have n0_:=Am (bB (g:=Bc) (o:=.cells #[.slice A0_0 l0_0.length c0_0,.int .i64 a0_1] 25 (0,0)) (bL Ba.out) hb);have n1_:=Am (bB (g:=Bd) (o:=.cells #[.slice none 0 0,.int .i64 0] 25 (0,0)) (bL Bb.out) hb);have n2_:=Am (bP (by repeat (first|(with_reducible first|exact HB.out|apply oA|apply pN|apply o1|refine bS ?_ Be.out|refine bS ?_ Bf.out)|exact HB.out)) hb);clear Ba Bb HB;revert n0_ n1_ n2_;intro Ba Bb HB;(try clear hb);(try clear hb2);(try clear hk);(try clear hi);have BO:w26.cell? ⟨Bc,0,none⟩=some (.slice A0_0 l0_0.length c0_0):=(bC Ba.out 0).trans rfl;have BP:w26.cell? ⟨Bc,1,none⟩=some (.int .i64 a0_1):=(bC Ba.out 1).trans rfl;have BQ:=bF Ba.out 0;have BR:=bF Ba.out 1)|((with_reducible refine gate_callee (f:=40) rfl ?_);refine goesL_ (some 13) rfl rfl Try.func40 (by kernel_rfl) rfl #[.agg #[.slice A0_0 l0_0.length c0_0,.int .i64 a0_1]] rfl (by (try simp only [lM,lC,lN]);first|done|rfl|(simp only [lD,lT];rfl)) ?_;(with_reducible refine (spec_l11Copy.calls _ _ l0_0 a0_1 t281 t284 _ ?side1 ?side2 A4.out).mono ?_);(case side1=>repeat (first|exact (cB HR0_0.out HB.out)|(with_reducible refine cA ?_ _)|(with_reducible refine cN ?_ _)|(with_reducible refine cD ?_)));(case side2=>exact HC0_0.out);rintro e w28 ⟨v282,rfl,ho0,hb⟩;refine ⟨_,rfl,?_⟩;have n0_:=Am (Kd.R_lower ho0 (bZ (by repeat (first|(with_reducible first|exact HB.out|apply oA|apply pN|apply o1|refine bS ?_ Be.out|refine bS ?_ Bf.out)|exact HB.out))));have n1_:=Am (bB (g:=Bc) (o:=.cells #[.slice A0_0 l0_0.length c0_0,.int .i64 a0_1] 25 (0,0)) (bL Ba.out) hb);have n2_:=Am (bB (g:=Bd) (o:=.cells #[.slice none 0 0,.int .i64 0] 25 (0,0)) (bL Bb.out) hb);have n3_:=Am (bP (by repeat (first|(with_reducible first|exact HB.out|apply oA|apply pN|apply o1|refine bS ?_ Be.out|refine bS ?_ Bf.out)|exact HB.out)) hb);clear Ba Bb HB;revert n0_ n1_ n2_ n3_;intro Bh Ba Bb HB;(try clear hb);(try clear hb2);(try clear hk);(try clear hi);(try clear ho0);obtain ⟨Ao29,co29,eo29⟩:=Kd.R_slice Bh.out;subst eo29)|((with_reducible refine gate_callee (f:=44) rfl ?_);refine goesL_ (some 14) rfl rfl Try.func44 (by kernel_rfl) rfl #[.agg #[.slice Ao29 t281.length co29,.int .i64 t284]] rfl (by (try simp only [lM,lC,lN]);first|done|rfl|(simp only [lD,lT];rfl)) ?_;(with_reducible refine (spec_l11Tick.calls k (fun k_=>some k_=(.slice Ao29 t281.length co29:Value).ownBlock) (.slice Ao29 t281.length co29) t281 t284 t285 t288 t289 w _ ?side1 ?side2 A5.out).mono ?_);(case side1=>repeat (first|(with_reducible first|exact HB.out|apply oA|apply pN|apply o1|refine bS ?_ Be.out|refine bS ?_ Bf.out)|exact HB.out));(case side2=>exact Kd.R_tight rfl Bh.out);rintro e w30 ⟨v286,rfl,ho0,hb,hkp⟩;refine ⟨_,rfl,?_⟩;have n0_:=Am (blk_kept (bL Ba.out) hkp (fun hs_=>(fun e_=>(Kd.R_ne Bh.out Ba.out (by decide)) e_) hs_));have n1_:=Am (blk_kept (bL Bb.out) hkp (fun hs_=>(fun e_=>(Kd.R_ne Bh.out Bb.out (by decide)) e_) hs_));have n2_:=Am (rM (ok':=fun k_=>True) ho0 (fun k_ hk_=>trivial));have n3_:=Am (hb);clear Ba Bb HB Bh;revert n0_ n1_ n2_ n3_;intro Ba Bb Bi HB;(try clear hb);(try clear hkp);(try clear ho0))|((with_reducible refine gate_dst (N:=5) rfl ?_);refine box_event ?hg (N:=5) ?hd (cs:=#[.slice none 0 0,.int .i64 0]) (t:=25) ?hr ?_;(case hd=>rfl);(case hg=>rfl);(case hr=>first|(go_simp;done)|(go_simp;rfl));intro Bg hg w31 hbox hb;have n0_:=Am (rB (rL Bi.out) hb);have n1_:=Am (bB (g:=Bc) (o:=.cells #[.slice A0_0 l0_0.length c0_0,.int .i64 a0_1] 25 (0,0)) (bL Ba.out) hb);have n2_:=Am (bB (g:=Bd) (o:=.cells #[.slice none 0 0,.int .i64 0] 25 (0,0)) (bL Bb.out) hb);have n3_:=Am (bP (by repeat (first|(with_reducible first|exact HB.out|apply oA|apply pN|apply o1|refine bS ?_ Be.out|refine bS ?_ Bf.out)|exact HB.out)) hb);have n4_:=Am (hbox);have n5_:=Am ((by rw [hg];exact (bZ (by repeat (first|(with_reducible first|exact HB.out|apply oA|apply pN|apply o1|refine bS ?_ Be.out|refine bS ?_ Bf.out)|exact HB.out))):w.heap.size≤Bg));have n6_:=Am ((by rw [hg];exact (bZ (by repeat (first|(with_reducible first|exact HB.out|apply oA|apply pN|apply o1|refine bS ?_ Be.out|refine bS ?_ Bf.out)|exact HB.out))):w.heap.size≤Bg));have n7_:=Am ((by rw [hg];exact Nat.ne_of_lt (blk_lt (g:=Bc) (o:=.cells #[.slice A0_0 l0_0.length c0_0,.int .i64 a0_1] 25 (0,0)) (bL Ba.out)):Bc≠Bg));have n8_:=Am ((by rw [hg];exact Nat.ne_of_gt (blk_lt (g:=Bc) (o:=.cells #[.slice A0_0 l0_0.length c0_0,.int .i64 a0_1] 25 (0,0)) (bL Ba.out)):Bg≠Bc));have n9_:=Am ((by rw [hg];exact Nat.ne_of_lt (blk_lt (g:=Bd) (o:=.cells #[.slice none 0 0,.int .i64 0] 25 (0,0)) (bL Bb.out)):Bd≠Bg));have n10_:=Am ((by rw [hg];exact Nat.ne_of_gt (blk_lt (g:=Bd) (o:=.cells #[.slice none 0 0,.int .i64 0] 25 (0,0)) (bL Bb.out)):Bg≠Bd));clear Bi Ba Bb HB;revert n0_ n1_ n2_ n3_ n4_ n5_ n6_ n7_ n8_ n9_ n10_;intro Bi Ba Bb HB Bj Bt Bq Bn Bo Bm Bp;clear hb hbox hg;obtain ⟨Ao32,co32,eo32⟩:=Kd.R_slice Bi.out;subst eo32;have De:=Bo.out;have Df:=Bn.out;have Dg:=Bp.out;have Dh:=Bm.out;have BS:w31.cell? ⟨Bg,0,none⟩=some (.slice none 0 0):=(bC Bj.out 0).trans rfl;have BT:w31.cell? ⟨Bg,1,none⟩=some (.int .i64 0):=(bC Bj.out 1).trans rfl;have BU:=bF Bj.out 0;have BV:=bF Bj.out 1;have BW:w31.cell? ⟨Bd,0,none⟩=some (.slice none 0 0):=(bC Bb.out 0).trans rfl;have BX:w31.cell? ⟨Bd,1,none⟩=some (.int .i64 0):=(bC Bb.out 1).trans rfl;have BY:=bF Bb.out 0;have BZ:=bF Bb.out 1))
 refine bodyPost_ret (results_ctt rfl _ _ Bd 25 #[.slice Ao32 t285.length co32,.int .i64 t288] (0,0) _ rfl (by (with_reducible repeat (first|refine bN ?_ _|refine bD ?_|refine bA ?_ _));refine blk_put (cs:=#[.slice Ao32 t285.length co32,.int .i64 0]) ?_ 1 _ rfl;(with_reducible repeat (first|refine bN ?_ _|refine bD ?_|refine bA ?_ _));refine blk_put (cs:=#[.slice none 0 0,.int .i64 0]) ?_ 0 _ rfl;(with_reducible repeat (first|refine bN ?_ _|refine bD ?_|refine bA ?_ _|refine blk_far ?_ Bm.out _));exact Bb.out) Try.underlying25 rfl (by kernel_rfl)) rfl ?_
 exact ⟨_,by first|rfl|(simp [errW_none,errW_some] <;> rfl)|(simp [*,errW_none,errW_some] <;> rfl),by (with_reducible repeat (first|apply rA|apply rN|apply rD));exact rM (rF (p:=⟨Bd,1,none⟩) (rF (p:=⟨Bd,0,none⟩) (rF (p:=⟨Bg,1,none⟩) (rF (p:=⟨Bg,0,none⟩) (rT (rT Bi.out Bj.out (by decide)) Bb.out (by decide)) (fun _ hk=>hk.1.2) (.slice Ao32 t285.length co32)) (fun _ hk=>hk.1.2) (.int .i64 t288)) (fun _ hk=>hk.2) (.slice Ao32 t285.length co32)) (fun _ hk=>hk.2) (.int .i64 t288)) (fun _ hk=>trivial),by repeat (first|(with_reducible first|exact HB.out|apply oA|apply pN|apply o1|refine bS ?_ Be.out|refine bS ?_ Bf.out|refine bS ?_ Bq.out)|exact HB.out)⟩/-! ### impl_QueueNext: function 23 -/
def impl_QueueNext.f (k : Nat) (l0_0 : List (S40)) (a0_1 : Int) : Option (Int) := (impl_Queue_next.f k l0_0 a0_1).bind fun t292 => ((impl_QueueOk.f k l0_0 a0_1).bind fun t293 => (if t293 = true then (if t292 ≥ 0 then (if 0 ≤ t292 then (if t292 < (l0_0.length : Int) then (some ((rd_T40 l0_0 t292).f0)) else (none)) else (none)) else (some (-1))) else (some (-1))))
theorem impl_QueueNext.mono : ∀ a0 a1 k, LeO (impl_QueueNext.f k a0 a1) (impl_QueueNext.f (k + 1) a0 a1) := by
 intro a0 a1 k
 unfold impl_QueueNext.f
 repeat' first
  |(with_reducible exact impl_QueueOk.mono _ _ _)
  |(with_reducible exact impl_Queue_next.mono _ _ _)
  |(with_reducible exact LeO.refl _)
  |(with_reducible exact LeO.none _)
  |(with_reducible refine LeO.ite ?_ ?_)
  |(with_reducible refine LeO.bind ?_ (fun _ => ?_))
  |exact impl_QueueOk.mono _ _ _
  |exact impl_Queue_next.mono _ _ _
  |exact LeO.none _
  |refine LeO.ite ?_ ?_
  |refine LeO.bind ?_ (fun _ => ?_)
set_option maxHeartbeats 2000000 in
set_option maxRecDepth 100000 in
theorem impl_QueueNext.calls (k:Nat) (A0_0:Option Addr) (c0_0:Nat) (l0_0:List (S40)) (a0_1:Int) (r:Int) (w:World) (hr0_0:Kd.C k40 w A0_0 l0_0.length l0_0) (hc0_0:l0_0.length≤c0_0) (h:impl_QueueNext.f k l0_0 a0_1=some r) :
  Calls Try.prog 23 #[.agg #[.slice A0_0 l0_0.length c0_0,.int .i64 a0_1]] w fun e w'=>e=.returned (.int .i64 r)∧Below w.heap.size w w':=by
 have hu25:=Try.underlying25
 have HR0_0:=Am hr0_0
 have HC0_0:=Am hc0_0
 clear hr0_0 hc0_0
 have HB:=Am (Below.refl w.heap.size w)
 have H:((impl_Queue_next.f k l0_0 a0_1).bind fun t292=>((impl_QueueOk.f k l0_0 a0_1).bind fun t293=>(if t293=true then (if t292 ≥ 0 then (if 0≤t292 then (if t292<(l0_0.length:Int) then (some ((rd_T40 l0_0 t292).f0)) else (none)) else (none)) else (some (-1))) else (some (-1)))))=some r:=h
 clear h
 replace H:=oC H
 obtain ⟨t292,A20,H⟩:=H
 replace H:((impl_QueueOk.f k l0_0 a0_1).bind fun t293=>(if t293=true then (if t292 ≥ 0 then (if 0≤t292 then (if t292<(l0_0.length:Int) then (some ((rd_T40 l0_0 t292).f0)) else (none)) else (none)) else (some (-1))) else (some (-1))))=some r:=H
 have A2:=Am A20
 clear A20
 replace H:=oC H
 obtain ⟨t293,A30,H⟩:=H
 replace H:(if t293=true then (if t292 ≥ 0 then (if 0≤t292 then (if t292<(l0_0.length:Int) then (some ((rd_T40 l0_0 t292).f0)) else (none)) else (none)) else (some (-1))) else (some (-1)))=some r:=H
 have A3:=Am A30
 clear A30
 by_cases c4:t293=true
 rotate_left
 ·replace c4:=Bool.eq_false_iff.mpr c4
  subst c4
  have H1:(some (-1))=some r:=by rw [if_neg (show ¬ (false=true) by decide)] at H;exact H
  clear H
  have H:=H1
  clear H1
  obtain rfl:=Option.some.inj H
  go_enter Try.func23,Try.ntmps23
  go_wp2_with (first|((with_reducible refine gate_dst (N:=1) rfl ?_);refine box_event ?hg (N:=1) ?hd (cs:=#[.slice A0_0 l0_0.length c0_0,.int .i64 a0_1]) (t:=25) ?hr ?_;(case hd=>rfl);(case hg=>rfl);(case hr=>first|(go_simp;done)|(go_simp;rfl));intro Bb hg w19 hbox hb;have n0_:=Am (bP (by repeat (first|(with_reducible first|exact HB.out|apply oA|apply pN|apply o1)|exact HB.out)) hb);have n1_:=Am (hbox);have n2_:=Am ((by rw [hg];exact (bZ (by repeat (first|(with_reducible first|exact HB.out|apply oA|apply pN|apply o1)|exact HB.out))):w.heap.size≤Bb));have n3_:=Am ((by rw [hg];exact (bZ (by repeat (first|(with_reducible first|exact HB.out|apply oA|apply pN|apply o1)|exact HB.out))):w.heap.size≤Bb));clear HB;revert n0_ n1_ n2_ n3_;intro HB Ba Bd Bc;clear hb hbox hg;have Bu:w19.cell? ⟨Bb,0,none⟩=some (.slice A0_0 l0_0.length c0_0):=(bC Ba.out 0).trans rfl;have Bv:w19.cell? ⟨Bb,1,none⟩=some (.int .i64 a0_1):=(bC Ba.out 1).trans rfl;have Bw:=bF Ba.out 0;have Bx:=bF Ba.out 1)|((with_reducible refine gate_callee (f:=43) rfl ?_);refine goesL_ (some 5) rfl rfl Try.func43 (by kernel_rfl) rfl #[.agg #[.slice A0_0 l0_0.length c0_0,.int .i64 a0_1]] rfl (by (try simp only [lM,lC,lN]);first|done|rfl|(simp only [lD,lT];rfl)) ?_;(with_reducible refine (impl_Queue_next.calls k _ _ l0_0 a0_1 t292 _ ?side1 ?side2 A2.out).mono ?_);(case side1=>repeat (first|exact (cB HR0_0.out HB.out)|(with_reducible refine cA ?_ _)|(with_reducible refine cN ?_ _)|(with_reducible refine cD ?_)));(case side2=>exact HC0_0.out);rintro e w21 ⟨rfl,hb⟩;refine ⟨_,rfl,?_⟩;have n0_:=Am (bB (g:=Bb) (o:=.cells #[.slice A0_0 l0_0.length c0_0,.int .i64 a0_1] 25 (0,0)) (bL Ba.out) hb);have n1_:=Am (bP (by repeat (first|(with_reducible first|exact HB.out|apply oA|apply pN|apply o1|refine bS ?_ Bc.out)|exact HB.out)) hb);clear Ba HB;revert n0_ n1_;intro Ba HB;(try clear hb);(try clear hb2);(try clear hk);(try clear hi);have By:w21.cell? ⟨Bb,0,none⟩=some (.slice A0_0 l0_0.length c0_0):=(bC Ba.out 0).trans rfl;have Bz:w21.cell? ⟨Bb,1,none⟩=some (.int .i64 a0_1):=(bC Ba.out 1).trans rfl;have BA:=bF Ba.out 0;have BB:=bF Ba.out 1)|((with_reducible refine gate_callee (f:=16) rfl ?_);refine goesL_ (some 7) rfl rfl Try.func16 (by kernel_rfl) rfl #[.agg #[.slice A0_0 l0_0.length c0_0,.int .i64 a0_1]] rfl (by (try simp only [lM,lC,lN]);first|done|rfl|(simp only [lD,lT];rfl)) ?_;(with_reducible refine (impl_QueueOk.calls k _ _ l0_0 a0_1 false _ ?side1 ?side2 A3.out).mono ?_);(case side1=>repeat (first|exact (cB HR0_0.out HB.out)|(with_reducible refine cA ?_ _)|(with_reducible refine cN ?_ _)|(with_reducible refine cD ?_)));(case side2=>exact HC0_0.out);rintro e w23 ⟨rfl,hb⟩;refine ⟨_,rfl,?_⟩;have n0_:=Am (bB (g:=Bb) (o:=.cells #[.slice A0_0 l0_0.length c0_0,.int .i64 a0_1] 25 (0,0)) (bL Ba.out) hb);have n1_:=Am (bP (by repeat (first|(with_reducible first|exact HB.out|apply oA|apply pN|apply o1|refine bS ?_ Bc.out)|exact HB.out)) hb);clear Ba HB;revert n0_ n1_;intro Ba HB;(try clear hb);(try clear hb2);(try clear hk);(try clear hi)))
  go_ret
  exact ⟨by first|rfl|(simp [errW_none,errW_some] <;> rfl)|(simp [*,errW_none,errW_some] <;> rfl),by repeat (first|(with_reducible first|exact HB.out|apply oA|apply pN|apply o1|refine bS ?_ Bc.out)|exact HB.out)⟩

 subst c4
 have H1:(if t292 ≥ 0 then (if 0≤t292 then (if t292<(l0_0.length:Int) then (some ((rd_T40 l0_0 t292).f0)) else (none)) else (none)) else (some (-1)))=some r:=by rw [if_pos rfl] at H;exact H
 clear H
 have H:=H1
 clear H1
 by_cases c5:t292 ≥ 0
 rotate_left
 ·rw [if_neg c5] at H
  have c5b0:decide (0≤t292)=false:=decide_eq_false c5
  clear c5
  obtain rfl:=Option.some.inj H
  go_enter Try.func23,Try.ntmps23
  go_wp2_with (first|((with_reducible refine gate_dst (N:=1) rfl ?_);refine box_event ?hg (N:=1) ?hd (cs:=#[.slice A0_0 l0_0.length c0_0,.int .i64 a0_1]) (t:=25) ?hr ?_;(case hd=>rfl);(case hg=>rfl);(case hr=>first|(go_simp;done)|(go_simp;rfl));intro Bb hg w14 hbox hb;have n0_:=Am (bP (by repeat (first|(with_reducible first|exact HB.out|apply oA|apply pN|apply o1)|exact HB.out)) hb);have n1_:=Am (hbox);have n2_:=Am ((by rw [hg];exact (bZ (by repeat (first|(with_reducible first|exact HB.out|apply oA|apply pN|apply o1)|exact HB.out))):w.heap.size≤Bb));have n3_:=Am ((by rw [hg];exact (bZ (by repeat (first|(with_reducible first|exact HB.out|apply oA|apply pN|apply o1)|exact HB.out))):w.heap.size≤Bb));clear HB;revert n0_ n1_ n2_ n3_;intro HB Ba Bd Bc;clear hb hbox hg;have Bm:w14.cell? ⟨Bb,0,none⟩=some (.slice A0_0 l0_0.length c0_0):=(bC Ba.out 0).trans rfl;have Bn:w14.cell? ⟨Bb,1,none⟩=some (.int .i64 a0_1):=(bC Ba.out 1).trans rfl;have Bo:=bF Ba.out 0;have Bp:=bF Ba.out 1)|((with_reducible refine gate_callee (f:=43) rfl ?_);refine goesL_ (some 5) rfl rfl Try.func43 (by kernel_rfl) rfl #[.agg #[.slice A0_0 l0_0.length c0_0,.int .i64 a0_1]] rfl (by (try simp only [lM,lC,lN]);first|done|rfl|(simp only [lD,lT];rfl)) ?_;(with_reducible refine (impl_Queue_next.calls k _ _ l0_0 a0_1 t292 _ ?side1 ?side2 A2.out).mono ?_);(case side1=>repeat (first|exact (cB HR0_0.out HB.out)|(with_reducible refine cA ?_ _)|(with_reducible refine cN ?_ _)|(with_reducible refine cD ?_)));(case side2=>exact HC0_0.out);rintro e w16 ⟨rfl,hb⟩;refine ⟨_,rfl,?_⟩;have n0_:=Am (bB (g:=Bb) (o:=.cells #[.slice A0_0 l0_0.length c0_0,.int .i64 a0_1] 25 (0,0)) (bL Ba.out) hb);have n1_:=Am (bP (by repeat (first|(with_reducible first|exact HB.out|apply oA|apply pN|apply o1|refine bS ?_ Bc.out)|exact HB.out)) hb);clear Ba HB;revert n0_ n1_;intro Ba HB;(try clear hb);(try clear hb2);(try clear hk);(try clear hi);have Bq:w16.cell? ⟨Bb,0,none⟩=some (.slice A0_0 l0_0.length c0_0):=(bC Ba.out 0).trans rfl;have Br:w16.cell? ⟨Bb,1,none⟩=some (.int .i64 a0_1):=(bC Ba.out 1).trans rfl;have Bs:=bF Ba.out 0;have Bt:=bF Ba.out 1)|((with_reducible refine gate_callee (f:=16) rfl ?_);refine goesL_ (some 7) rfl rfl Try.func16 (by kernel_rfl) rfl #[.agg #[.slice A0_0 l0_0.length c0_0,.int .i64 a0_1]] rfl (by (try simp only [lM,lC,lN]);first|done|rfl|(simp only [lD,lT];rfl)) ?_;(with_reducible refine (impl_QueueOk.calls k _ _ l0_0 a0_1 true _ ?side1 ?side2 A3.out).mono ?_);(case side1=>repeat (first|exact (cB HR0_0.out HB.out)|(with_reducible refine cA ?_ _)|(with_reducible refine cN ?_ _)|(with_reducible refine cD ?_)));(case side2=>exact HC0_0.out);rintro e w18 ⟨rfl,hb⟩;refine ⟨_,rfl,?_⟩;have n0_:=Am (bB (g:=Bb) (o:=.cells #[.slice A0_0 l0_0.length c0_0,.int .i64 a0_1] 25 (0,0)) (bL Ba.out) hb);have n1_:=Am (bP (by repeat (first|(with_reducible first|exact HB.out|apply oA|apply pN|apply o1|refine bS ?_ Bc.out)|exact HB.out)) hb);clear Ba HB;revert n0_ n1_;intro Ba HB;(try clear hb);(try clear hb2);(try clear hk);(try clear hi)))
  go_ret
  exact ⟨by first|rfl|(simp [errW_none,errW_some] <;> rfl)|(simp [*,errW_none,errW_some] <;> rfl),by repeat (first|(with_reducible first|exact HB.out|apply oA|apply pN|apply o1|refine bS ?_ Bc.out)|exact HB.out)⟩
 rw [if_pos c5] at H
 have c5b0:decide (0≤t292)=true:=decide_eq_true c5
 clear c5
 by_cases c6:0≤t292
 rotate_left
 ·rw [if_neg c6] at H
  exact absurd H (by simp)
 rw [if_pos c6] at H
 have c6b0:decide (0≤t292)=true:=decide_eq_true c6
 clear c6
 by_cases c7:t292<(l0_0.length:Int)
 rotate_left
 ·rw [if_neg c7] at H
  exact absurd H (by simp)
 rw [if_pos c7] at H
 have c7b0:decide (t292<(l0_0.length:Int))=true:=decide_eq_true c7
 clear c7
 obtain rfl:=Option.some.inj H
 go_enter Try.func23,Try.ntmps23
 go_wp2_with (first|((with_reducible refine gate_dst (N:=1) rfl ?_);refine box_event ?hg (N:=1) ?hd (cs:=#[.slice A0_0 l0_0.length c0_0,.int .i64 a0_1]) (t:=25) ?hr ?_;(case hd=>rfl);(case hg=>rfl);(case hr=>first|(go_simp;done)|(go_simp;rfl));intro Bb hg w8 hbox hb;have n0_:=Am (bP (by repeat (first|(with_reducible first|exact HB.out|apply oA|apply pN|apply o1)|exact HB.out)) hb);have n1_:=Am (hbox);have n2_:=Am ((by rw [hg];exact (bZ (by repeat (first|(with_reducible first|exact HB.out|apply oA|apply pN|apply o1)|exact HB.out))):w.heap.size≤Bb));have n3_:=Am ((by rw [hg];exact (bZ (by repeat (first|(with_reducible first|exact HB.out|apply oA|apply pN|apply o1)|exact HB.out))):w.heap.size≤Bb));clear HB;revert n0_ n1_ n2_ n3_;intro HB Ba Bd Bc;clear hb hbox hg;have BC:w8.cell? ⟨Bb,0,none⟩=some (.slice A0_0 l0_0.length c0_0):=(bC Ba.out 0).trans rfl;have BD:w8.cell? ⟨Bb,1,none⟩=some (.int .i64 a0_1):=(bC Ba.out 1).trans rfl;have BE:=bF Ba.out 0;have BF:=bF Ba.out 1)|((with_reducible refine gate_callee (f:=43) rfl ?_);refine goesL_ (some 5) rfl rfl Try.func43 (by kernel_rfl) rfl #[.agg #[.slice A0_0 l0_0.length c0_0,.int .i64 a0_1]] rfl (by (try simp only [lM,lC,lN]);first|done|rfl|(simp only [lD,lT];rfl)) ?_;(with_reducible refine (impl_Queue_next.calls k _ _ l0_0 a0_1 t292 _ ?side1 ?side2 A2.out).mono ?_);(case side1=>repeat (first|exact (cB HR0_0.out HB.out)|(with_reducible refine cA ?_ _)|(with_reducible refine cN ?_ _)|(with_reducible refine cD ?_)));(case side2=>exact HC0_0.out);rintro e w10 ⟨rfl,hb⟩;refine ⟨_,rfl,?_⟩;have n0_:=Am (bB (g:=Bb) (o:=.cells #[.slice A0_0 l0_0.length c0_0,.int .i64 a0_1] 25 (0,0)) (bL Ba.out) hb);have n1_:=Am (bP (by repeat (first|(with_reducible first|exact HB.out|apply oA|apply pN|apply o1|refine bS ?_ Bc.out)|exact HB.out)) hb);clear Ba HB;revert n0_ n1_;intro Ba HB;(try clear hb);(try clear hb2);(try clear hk);(try clear hi);have Be:w10.cell? ⟨Bb,0,none⟩=some (.slice A0_0 l0_0.length c0_0):=(bC Ba.out 0).trans rfl;have Bf:w10.cell? ⟨Bb,1,none⟩=some (.int .i64 a0_1):=(bC Ba.out 1).trans rfl;have Bg:=bF Ba.out 0;have Bh:=bF Ba.out 1)|((with_reducible refine gate_callee (f:=16) rfl ?_);refine goesL_ (some 7) rfl rfl Try.func16 (by kernel_rfl) rfl #[.agg #[.slice A0_0 l0_0.length c0_0,.int .i64 a0_1]] rfl (by (try simp only [lM,lC,lN]);first|done|rfl|(simp only [lD,lT];rfl)) ?_;(with_reducible refine (impl_QueueOk.calls k _ _ l0_0 a0_1 true _ ?side1 ?side2 A3.out).mono ?_);(case side1=>repeat (first|exact (cB HR0_0.out HB.out)|(with_reducible refine cA ?_ _)|(with_reducible refine cN ?_ _)|(with_reducible refine cD ?_)));(case side2=>exact HC0_0.out);rintro e w12 ⟨rfl,hb⟩;refine ⟨_,rfl,?_⟩;have n0_:=Am (bB (g:=Bb) (o:=.cells #[.slice A0_0 l0_0.length c0_0,.int .i64 a0_1] 25 (0,0)) (bL Ba.out) hb);have n1_:=Am (bP (by repeat (first|(with_reducible first|exact HB.out|apply oA|apply pN|apply o1|refine bS ?_ Bc.out)|exact HB.out)) hb);clear Ba HB;revert n0_ n1_;intro Ba HB;(try clear hb);(try clear hb2);(try clear hk);(try clear hi);have Bi:w12.cell? ⟨Bb,0,none⟩=some (.slice A0_0 l0_0.length c0_0):=(bC Ba.out 0).trans rfl;have Bj:w12.cell? ⟨Bb,1,none⟩=some (.int .i64 a0_1):=(bC Ba.out 1).trans rfl;have Bk:=bF Ba.out 0;have Bl:=bF Ba.out 1;have p294:0≤(t292:Int):=of_decide_eq_true (by first|(with_reducible assumption)|assumption);have q294:t292<(l0_0.length:Int):=of_decide_eq_true (by first|(with_reducible assumption)|assumption);obtain ⟨ad294,e294,hx294_0,hx294_1,hx294_2,hx294_3⟩:=at_T40 HR0_0.out t292 p294 q294;cases e294;replace hx294_0:=(HB.out.cell (World.block_lt_of_cell? w _ hx294_0)).trans hx294_0;replace hx294_1:=(HB.out.cell (World.block_lt_of_cell? w _ hx294_1)).trans hx294_1;replace hx294_2:=(HB.out.cell (World.block_lt_of_cell? w _ hx294_2)).trans hx294_2;replace hx294_3:=(HB.out.cell (World.block_lt_of_cell? w _ hx294_3)).trans hx294_3;replace p294:=eq_true p294;replace q294:=eq_true q294))
 go_ret
 exact ⟨by first|rfl|(simp [errW_none,errW_some] <;> rfl)|(simp [*,errW_none,errW_some] <;> rfl),by repeat (first|(with_reducible first|exact HB.out|apply oA|apply pN|apply o1|refine bS ?_ Bc.out)|exact HB.out)⟩
end Go.Proofs.Ytfhcgmfodfcpeaa.PFnQueueTick
