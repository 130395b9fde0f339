/- Proved here, without a condition beyond those that each theorem states: what the Go functions named below do is what the plain functions of the same names say. Written by xprint.py, a program of this session. -/
import Derived.Test.YtfhcgmfodfcpeaaPFnQueueSleepx0
import Derived.Test.YtfhcgmfodfcpeaaPFnQueueSleepx5
import Derived.Test.YtfhcgmfodfcpeaaPFnQueueSleepx13
namespace Go.Proofs.Ytfhcgmfodfcpeaa.PFnQueueSleep
open Go.RowKit Go.Proofs.YtfhcgmfodfcpeaaW.PrintWords Go.Proofs.YtfhcgmfodfcpeaaW.PrintLast Go.Proofs.YtfhcgmfodfcpeaaW.PrintMore
attribute [local go_sem] max2_int min2_int max_two min_two max_three min_three max_four min_four   -- for this text's walks alone
set_option linter.unusedVariables false
set_option linter.unusedSimpArgs false

attribute [local go_sem ↓] isSome_setCell_
/-! ### spec_l11Copy: function 40 -/
def spec_l11Copy.f (l0_0 : List (S40)) (a0_1 : Int) : Option ((List (S40)) × Int) := (some (([] : List (S40)) : List (S40))).bind fun y271 => (if y271.length + l0_0.length < 4398046511104 then (some ((y271 ++ l0_0), a0_1)) else (none))
def spec_l11Copy.T1 : Bool × List (List Nat × List Nat) := (true, [([], []), ([], []), ([1], [1]), ([0, 2], [0, 2]), ([], []), ([4], [4]), ([3, 5], [3, 5]), ([6, 3, 0, 1, 2, 3, 4, 5, 6], [6])])
def spec_l11Copy.B1 : List Nat := [0, 0, 2, 7, 0, 16, 63, 127]
theorem spec_l11Copy.tab1 : rtab .any (opsOf Try.f40 1) = spec_l11Copy.T1 := by kernel_rfl
theorem spec_l11Copy.bits1 : waitsOk spec_l11Copy.T1.2 spec_l11Copy.B1 = true := by kernel_rfl
abbrev z40q0 : Array Bool := bQ 8 0
abbrev z40q1 : Array Bool := bQ 8 2
abbrev z40q2 : Array Bool := bQ 8 18
abbrev z40q3 : Array Bool := bQ 8 22
abbrev z40q4 : Array Bool := bQ 8 54
abbrev z40q5 : Array Bool := bQ 8 55
abbrev z40q6 : Array Bool := bQ 8 63
abbrev z40q7 : Array Bool := bQ 8 127
abbrev z40q8 : Array Bool := bQ 8 255
set_option maxHeartbeats 2000000 in
set_option maxRecDepth 100000 in
theorem spec_l11Copy.calls (A0_0:Option Addr) (c0_0:Nat) (l0_0:List (S40)) (a0_1:Int) (r1:List (S40)) (r2:Int) (w:World) (hr0_0:Kd.C k40 w A0_0 l0_0.length l0_0) (hc0_0:l0_0.length≤c0_0) (h:spec_l11Copy.f l0_0 a0_1=some (r1,r2)) :
  Calls Try.prog 40 #[.agg #[.slice A0_0 l0_0.length c0_0,.int .i64 a0_1]] w fun e w'=>∃ v0_:Value,e=.returned (.agg #[v0_,.int .i64 r2])∧Kd.R k40 40 w' w.heap.size (fun _=>True) v0_ r1∧Below w.heap.size w w':=by
 have hu25:=Try.underlying25
 have HR0_0:=Am hr0_0
 have HC0_0:=Am hc0_0
 clear hr0_0 hc0_0
 have HB:=Am (Below.refl w.heap.size w)
 have H:((some (([]:List (S40)):List (S40))).bind fun y271=>(if y271.length + l0_0.length<4398046511104 then (some ((y271 ++ l0_0),a0_1)) else (none)))=some (r1,r2):=h
 clear h
 obtain ⟨y271,hy271⟩:∃ y_:List (S40),y_=(([]:List (S40))):=⟨_,rfl⟩
 replace H:(if y271.length + l0_0.length<4398046511104 then (some ((y271 ++ l0_0),a0_1)) else (none))=some (r1,r2):=by first|(rw [hy271];with_reducible exact H)|(have H2_:=(Option.bind_some _ _).symm.trans H;rw [hy271];with_reducible exact H2_)|(have H2_:=(Option.bind_some _ _).symm.trans H;with_reducible exact H2_)|with_reducible exact H|(rw [hy271];exact H)|exact H
 have Ny271:=Am hy271
 clear hy271
 by_cases c2:y271.length + l0_0.length<4398046511104
 rotate_left
 ·rw [if_neg c2] at H
  exact absurd H (by simp)


 rw [if_pos c2] at H
 have LMc2:=Am c2
 clear c2
 obtain ⟨y274,hy274⟩:∃ y_:List (S40),y_=(y271 ++ l0_0):=⟨_,rfl⟩
 replace H:(some (y274,a0_1))=some (r1,r2):=by first|(rw [hy274];with_reducible exact H)|(have H2_:=(Option.bind_some _ _).symm.trans H;rw [hy274];with_reducible exact H2_)|(have H2_:=(Option.bind_some _ _).symm.trans H;with_reducible exact H2_)|with_reducible exact H|(rw [hy274];exact H)|exact H
 have Ny274:=Am hy274
 clear hy274
 simp only [Option.some.injEq,Prod.mk.injEq] at H
 obtain ⟨rfl,rfl⟩:=H
 go_enter Try.func40,Try.ntmps40
 try go_wp2_with (first|((with_reducible refine gate_dst (N:=1) rfl ?_);refine box_event ?hg (N:=1) ?hd (cs:=#[.slice A0_0 l0_0.length c0_0,.int .i64 a0_1]) (t:=25) ?hr ?_;(case hd=>rfl);(case hg=>rfl);(case hr=>first|(go_simp;done)|(go_simp;rfl));intro Be hg w3 hbox hb;have n0_:=Am (bP (by repeat (first|(with_reducible first|exact HB.out|apply oA|apply pN|apply o1)|exact HB.out)) hb);have n1_:=Am (hbox);have n2_:=Am ((by rw [hg];exact (bZ (by repeat (first|(with_reducible first|exact HB.out|apply oA|apply pN|apply o1)|exact HB.out))):w.heap.size≤Be));have n3_:=Am ((by rw [hg];exact (bZ (by repeat (first|(with_reducible first|exact HB.out|apply oA|apply pN|apply o1)|exact HB.out))):w.heap.size≤Be));clear HB;revert n0_ n1_ n2_ n3_;intro HB Ba Bk Bf;clear hb hbox hg)|((with_reducible refine gate_dst (N:=2) rfl ?_);refine box_event ?hg (N:=2) ?hd (cs:=#[.slice none 0 0,.int .i64 0]) (t:=25) ?hr ?_;(case hd=>rfl);(case hg=>rfl);(case hr=>first|(go_simp;done)|(go_simp;rfl));intro Bc hg w4 hbox hb;have n0_:=Am (bB (g:=Be) (o:=.cells #[.slice A0_0 l0_0.length c0_0,.int .i64 a0_1] 25 (0,0)) (bL Ba.out) hb);have n1_:=Am (bP (by repeat (first|(with_reducible first|exact HB.out|apply oA|apply pN|apply o1|refine bS ?_ Bf.out)|exact HB.out)) hb);have n2_:=Am (hbox);have n3_:=Am ((by rw [hg];exact (bZ (by repeat (first|(with_reducible first|exact HB.out|apply oA|apply pN|apply o1|refine bS ?_ Bf.out)|exact HB.out))):w.heap.size≤Bc));have n4_:=Am ((by rw [hg];exact (bZ (by repeat (first|(with_reducible first|exact HB.out|apply oA|apply pN|apply o1|refine bS ?_ Bf.out)|exact HB.out))):w.heap.size≤Bc));have n5_:=Am ((by rw [hg];exact Nat.ne_of_lt (blk_lt (g:=Be) (o:=.cells #[.slice A0_0 l0_0.length c0_0,.int .i64 a0_1] 25 (0,0)) (bL Ba.out)):Be≠Bc));have n6_:=Am ((by rw [hg];exact Nat.ne_of_gt (blk_lt (g:=Be) (o:=.cells #[.slice A0_0 l0_0.length c0_0,.int .i64 a0_1] 25 (0,0)) (bL Ba.out)):Bc≠Be));clear Ba HB;revert n0_ n1_ n2_ n3_ n4_ n5_ n6_;intro Ba HB Bb Bl Bg Bd Bh;clear hb hbox hg))
 have n0_:=Am (bD Ba.out)
 have n1_:=Am (bD Bb.out)
 have n2_:=Am (o1 HB.out)
 clear Ba
 clear Bb
 clear HB
 have Ba:=n0_
 have Bb:=n1_
 have HB:=n2_
 clear n0_ n1_ n2_
 refine start_ (n:=8) (S:=fun w'=>w'.cell? ⟨Be,0,none⟩=some (.slice A0_0 l0_0.length c0_0)∧w'.cell? ⟨Be,1,none⟩=some (.int .i64 a0_1)) (ds:=[]) z40q0 (by kernel_rfl) rfl rfl ⟨(bC Ba.out 0).trans rfl,(bC Ba.out 1).trans rfl⟩ (fun hHeld=>?_);refine with_st spec_l11Copy.tab1 spec_l11Copy.bits1 (fun _ _ _ _ _ h=>h) (fun HT_=>?_)
 generalize w4.drew=w5 at Ba Bb HB hHeld ⊢
 refine pS 1 4 z40q1 HT_ rfl rfl (by kernel_rfl) (by rfl) (by intro w';go_simp;with_reducible rfl) (by simp only [Act.put,lA,lZ,lS,iw,jw];rfl) ?_
 refine pS 4 7 z40q2 HT_ rfl rfl (by kernel_rfl) (by rfl) (by intro w';go_simp;with_reducible rfl) (by simp only [Act.put,lA,lZ,lS,iw,jw];rfl) ?_
 refine tS 2 5 z40q3 HT_ hHeld rfl rfl (by kernel_rfl) (by rfl) (by rintro w' ⟨s0,s1⟩;go_simp;with_reducible rfl) (by simp only [Act.put,lA,lZ,lS,iw,jw];rfl) ?_
 refine tS 5 8 z40q4 HT_ hHeld rfl rfl (by kernel_rfl) (by rfl) (by rintro w' ⟨s0,s1⟩;go_simp;with_reducible rfl) (by simp only [Act.put,lA,lZ,lS,iw,jw];rfl) ?_
 refine oS 0 3 z40q5 HT_ rfl rfl (by kernel_rfl) (by decide) (fun K hK=>?_)
 refine Kd.R_lit_step k40 _ 40 ?hg (N:=3) ?hd (xs:=([]:List (S40))) (inner:=[]) (ok:=fun _=>True) (okp:=fun _=>True) ?hr ?hp (fun _ hk=>hk) trivial (Below.refl _ _) (Nat.le_refl _) (by simp) ?_;(case hd=>rfl);(case hg=>rfl);(case hr=>first|(go_simp;done)|(go_simp;rfl));(case hp=>exact (Reps.none _ _))
 intro v272 w6 ho7 hb hg_ hnew_
 clear hg_ hnew_
 (first|rw [← Ny271.out] at ho7|(simp only [Int.reduceToNat] at ho7;rw [← Ny271.out] at ho7))
 have n0_:=Am (Kd.R_lower ho7 (bZ (by repeat (first|(with_reducible first|exact HB.out|apply oA|apply pN|apply o1|refine bS ?_ Bf.out|refine bS ?_ Bg.out)|exact HB.out))))
 have n1_:=Am (bB (g:=Be) (o:=.cells #[.slice A0_0 l0_0.length c0_0,.int .i64 a0_1] 25 (0,0)) (bL Ba.out) hb)
 have n2_:=Am (bB (g:=Bc) (o:=.cells #[.slice none 0 0,.int .i64 0] 25 (0,0)) (bL Bb.out) hb)
 have n3_:=Am (bP (by repeat (first|(with_reducible first|exact HB.out|apply oA|apply pN|apply o1|refine bS ?_ Bf.out|refine bS ?_ Bg.out)|exact HB.out)) hb)
 clear Ba
 clear Bb
 clear HB
 have Bi:=n0_
 have Ba:=n1_
 have Bb:=n2_
 have HB:=n3_
 clear n0_ n1_ n2_ n3_
 clear hb ho7
 refine hK.out _ _ ⟨(bC Ba.out 0).trans rfl,(bC Ba.out 1).trans rfl⟩ (fun hHeld=>?_)
 clear hK K
 refine norm_ (by show Act.put _ (some 3) _=_;simp only [Act.put,lA,lZ,lS,iw,jw];rfl) ?_
 refine oS 3 6 z40q6 HT_ rfl rfl (by kernel_rfl) (by decide) (fun K hK=>?_)
 refine Kd.R_append_rows_step k40 (w0:=w) w.heap.size (by rfl) (.tmp 3) (.tmp 5) 23 40 (.agg #[(.int .i64 0),(.int .i64 0),(.int .i64 0),(.bool false)]) 32 rfl Try.underlying23 info40 rfl (by decide) (by omega) v272 y271 l0_0 _ _ _ (fun _=>True) (fun _=>False) rfl rfl ?aO ?aR (fun _ _ h=>h) (fun _ h=>h.elim) ?aF ?aB ?aS ?aL ?_
 (case aR=>repeat (first|exact (cB HR0_0.out HB.out)|(with_reducible refine cA ?_ _)|(with_reducible refine cN ?_ _)|(with_reducible refine cD ?_)))
 (case aB=>exact (by repeat (first|(with_reducible first|exact HB.out|apply oA|apply pN|apply o1|refine bS ?_ Bf.out|refine bS ?_ Bg.out)|exact HB.out)))
 (case aF=>exact (fun _ _=>trivial))
 (case aO=>exact (rL Bi.out))
 (case aS=>exact (bZ (by repeat (first|(with_reducible first|exact HB.out|apply oA|apply pN|apply o1|refine bS ?_ Bf.out|refine bS ?_ Bg.out)|exact HB.out))))
 (case aL=>have:=LMc2.out;omega)
 intro v275 w8 ho hb hg hat
 rw [← Ny274.out] at ho
 have n0_:=Am (blk_grown (g:=Be) (o:=.cells #[.slice A0_0 l0_0.length c0_0,.int .i64 a0_1] 25 (0,0)) (bL Ba.out) hg (Kd.R_ne Bi.out Ba.out (by decide)))
 have n1_:=Am (blk_grown (g:=Bc) (o:=.cells #[.slice none 0 0,.int .i64 0] 25 (0,0)) (bL Bb.out) hg (Kd.R_ne Bi.out Bb.out (by decide)))
 have n2_:=Am (hb)
 have n3_:=Am (ho)
 clear Ba
 clear Bb
 clear HB
 clear Bi
 have Ba:=n0_
 have Bb:=n1_
 have HB:=n2_
 have Bj:=n3_
 clear n0_ n1_ n2_ n3_
 clear ho hb hg hat
 obtain ⟨Ao9,co9,eo9⟩:=Kd.R_slice Bj.out
 (first|subst eo9|(injection eo9 with f1_ f2_ f3_;have f4_:=f1_.symm;have f5_:=f3_.symm;clear f1_ f2_ f3_;subst f4_;subst f5_))
 refine hK.out _ _ ⟨(bC Ba.out 0).trans rfl,(bC Ba.out 1).trans rfl⟩ (fun hHeld=>?_)
 clear hK K
 refine norm_ (by show Act.put _ (some 6) _=_;simp only [Act.put,lA,lZ,lS,iw,jw];rfl) ?_
 refine pS 6 9 z40q7 HT_ rfl rfl (by kernel_rfl) (by rfl) (by intro w';go_simp;with_reducible rfl) (by simp only [Act.put,lA,lZ,lS,iw,jw];rfl) ?_
 refine oU 7 none z40q8 HT_ rfl rfl (by kernel_rfl) (by decide) (fun K hK=>?_)
 have hs10:w8.cell? ⟨Bc,0,none⟩=some (.slice none 0 0):=(bC Bb.out 0).trans rfl
 have hfs10:=bF Bb.out 0
 have hns10_0:=Bd.out
 have hms10_0:=Bh.out
 have hs11:w8.cell? ⟨Bc,1,none⟩=some (.int .i64 0):=(bC Bb.out 1).trans rfl
 have hfs11:=bF Bb.out 1
 have hns11_0:=Bd.out
 have hms11_0:=Bh.out
 refine skip_ (w1:=?_) (by rfl) rfl ?_ ?_
 rotate_left;(go_simp;rfl)
 refine hK.out _ _ ⟨((cell_far (p:=⟨Bc,_,none⟩) Bd.out _).trans (((cell_far (p:=⟨Bc,_,none⟩) Bd.out _).trans (hHeld.1)))),((cell_far (p:=⟨Bc,_,none⟩) Bd.out _).trans (((cell_far (p:=⟨Bc,_,none⟩) Bd.out _).trans (hHeld.2))))⟩ (fun hHeld=>?_)
 clear hK K
 refine done_ (done_of HT_.out (by kernel_rfl)) ?_
 try go_wp2
 refine bodyPost_ret (results_cell_row rfl _ _ Bc 25 #[.slice Ao9 y274.length co9,.int .i64 a0_1] (0,0) _ rfl (by (with_reducible repeat (first|refine bN ?_ _|refine bD ?_|refine bA ?_ _));refine blk_put (cs:=#[.slice Ao9 y274.length co9,.int .i64 0]) ?_ 1 _ rfl;(with_reducible repeat (first|refine bN ?_ _|refine bD ?_|refine bA ?_ _));refine blk_put (cs:=#[.slice none 0 0,.int .i64 0]) ?_ 0 _ rfl;(with_reducible repeat (first|refine bN ?_ _|refine bD ?_|refine bA ?_ _));exact Bb.out) Try.underlying25 rfl (by kernel_rfl)) rfl ?_
 exact ⟨_,by first|rfl|(simp [errW_none,errW_some] <;> rfl)|(simp [*,errW_none,errW_some] <;> rfl),by (with_reducible repeat (first|apply rA|apply rN|apply rD));exact rM (rF (p:=⟨Bc,1,none⟩) (rF (p:=⟨Bc,0,none⟩) (rT Bj.out Bb.out (by decide)) (fun _ hk=>hk.2) (.slice Ao9 y274.length co9)) (fun _ hk=>hk.2) (.int .i64 a0_1)) (fun _ hk=>trivial),by repeat (first|(with_reducible first|exact HB.out|apply oA|apply pN|apply o1|refine bS ?_ Bf.out|refine bS ?_ Bg.out)|exact HB.out)⟩/-! ### spec_QueueSleep: function 26 -/
def spec_QueueSleep.f (k : Nat) (l0_0 : List (S40)) (a0_1 : Int) (a1 : Int) : Option ((List (S40)) × Int × Bool) := (spec_l11At.f k l0_0 a0_1 a1).bind fun t279 => ((spec_QueueOk.f k l0_0 a0_1).bind fun t280 => (if t280 = true then (if t279 < 0 then (some (([] : List (S40)), 0, false)) else ((spec_l11Copy.f l0_0 a0_1).bind fun bt281 => (if 0 ≤ t279 then (if t279 < (bt281.1.length : Int) then (some ((bt281.1.set (t279 : Int).toNat (⟨(rd_T40 bt281.1 t279).f0, (rd_T40 bt281.1 t279).f1, (rd_T40 bt281.1 t279).f2, false⟩ : S40)), bt281.2, true)) else (none)) else (none)))) else (some (([] : List (S40)), 0, false))))
theorem spec_QueueSleep.mono : ∀ a0 a1 a2 k, LeO (spec_QueueSleep.f k a0 a1 a2) (spec_QueueSleep.f (k + 1) a0 a1 a2) := by
 intro a0 a1 a2 k
 unfold spec_QueueSleep.f
 repeat' first
  |(with_reducible exact spec_QueueOk.mono _ _ _)
  |(with_reducible exact spec_l11At.mono _ _ _ _)
  |(with_reducible exact LeO.refl _)
  |(with_reducible exact LeO.none _)
  |(with_reducible refine LeO.ite ?_ ?_)
  |(with_reducible refine LeO.bind ?_ (fun _ => ?_))
  |exact spec_QueueOk.mono _ _ _
  |exact spec_l11At.mono _ _ _ _
  |exact LeO.none _
  |refine LeO.ite ?_ ?_
  |refine LeO.bind ?_ (fun _ => ?_)
set_option maxHeartbeats 2000000 in
set_option maxRecDepth 100000 in
theorem spec_QueueSleep.calls (k:Nat) (A0_0:Option Addr) (c0_0:Nat) (l0_0:List (S40)) (a0_1:Int) (a1:Int) (r1:List (S40)) (r2:Int) (r3:Bool) (w:World) (hr0_0:Kd.C k40 w A0_0 l0_0.length l0_0) (hc0_0:l0_0.length≤c0_0) (h:spec_QueueSleep.f k l0_0 a0_1 a1=some (r1,r2,r3)) :
  Calls Try.prog 26 #[.agg #[.slice A0_0 l0_0.length c0_0,.int .i64 a0_1],.int .i64 a1] w fun e w'=>∃ v0_:Value,e=.returned (.tuple #[.agg #[v0_,.int .i64 r2],.bool r3])∧Kd.R k40 40 w' w.heap.size (fun _=>True) v0_ r1∧Below w.heap.size w w':=by
 have hu25:=Try.underlying25
 have HR0_0:=Am hr0_0
 have HC0_0:=Am hc0_0
 clear hr0_0 hc0_0
 have HB:=Am (Below.refl w.heap.size w)
 have H:((spec_l11At.f k l0_0 a0_1 a1).bind fun t279=>((spec_QueueOk.f k l0_0 a0_1).bind fun t280=>(if t280=true then (if t279<0 then (some (([]:List (S40)),0,false)) else ((spec_l11Copy.f l0_0 a0_1).bind fun bt281=>(if 0≤t279 then (if t279<(bt281.1.length:Int) then (some ((bt281.1.set (t279:Int).toNat (⟨(rd_T40 bt281.1 t279).f0,(rd_T40 bt281.1 t279).f1,(rd_T40 bt281.1 t279).f2,false⟩:S40)),bt281.2,true)) else (none)) else (none)))) else (some (([]:List (S40)),0,false)))))=some (r1,r2,r3):=h
 clear h
 replace H:=oC H
 obtain ⟨t279,A30,H⟩:=H
 replace H:((spec_QueueOk.f k l0_0 a0_1).bind fun t280=>(if t280=true then (if t279<0 then (some (([]:List (S40)),0,false)) else ((spec_l11Copy.f l0_0 a0_1).bind fun bt281=>(if 0≤t279 then (if t279<(bt281.1.length:Int) then (some ((bt281.1.set (t279:Int).toNat (⟨(rd_T40 bt281.1 t279).f0,(rd_T40 bt281.1 t279).f1,(rd_T40 bt281.1 t279).f2,false⟩:S40)),bt281.2,true)) else (none)) else (none)))) else (some (([]:List (S40)),0,false))))=some (r1,r2,r3):=H
 have A3:=Am A30
 clear A30
 replace H:=oC H
 obtain ⟨t280,A40,H⟩:=H
 replace H:(if t280=true then (if t279<0 then (some (([]:List (S40)),0,false)) else ((spec_l11Copy.f l0_0 a0_1).bind fun bt281=>(if 0≤t279 then (if t279<(bt281.1.length:Int) then (some ((bt281.1.set (t279:Int).toNat (⟨(rd_T40 bt281.1 t279).f0,(rd_T40 bt281.1 t279).f1,(rd_T40 bt281.1 t279).f2,false⟩:S40)),bt281.2,true)) else (none)) else (none)))) else (some (([]:List (S40)),0,false)))=some (r1,r2,r3):=H
 have A4:=Am A40
 clear A40
 by_cases c5:t280=true
 rotate_left
 ·replace c5:=Bool.eq_false_iff.mpr c5
  subst c5
  have H1:(some (([]:List (S40)),0,false))=some (r1,r2,r3):=by rw [if_neg (show ¬ (false=true) by decide)] at H;exact H
  clear H
  have H:=H1
  clear H1
  simp only [Option.some.injEq,Prod.mk.injEq] at H
  obtain ⟨rfl,rfl,rfl⟩:=H
  go_enter Try.func26,Try.ntmps26
  go_wp2_with (first|((with_reducible refine gate_dst (N:=2) rfl ?_);refine box_event ?hg (N:=2) ?hd (cs:=#[.slice A0_0 l0_0.length c0_0,.int .i64 a0_1]) (t:=25) ?hr ?_;(case hd=>rfl);(case hg=>rfl);(case hr=>first|(go_simp;done)|(go_simp;rfl));intro Bb hg w39 hbox hb;have n0_:=Am (bP (by repeat (first|(with_reducible first|exact HB.out|apply oA|apply pN|apply o1)|exact HB.out)) hb);have n1_:=Am (hbox);have n2_:=Am ((by rw [hg];exact (bZ (by repeat (first|(with_reducible first|exact HB.out|apply oA|apply pN|apply o1)|exact HB.out))):w.heap.size≤Bb));have n3_:=Am ((by rw [hg];exact (bZ (by repeat (first|(with_reducible first|exact HB.out|apply oA|apply pN|apply o1)|exact HB.out))):w.heap.size≤Bb));clear HB;revert n0_ n1_ n2_ n3_;intro HB Ba Bp Be;clear hb hbox hg)|((with_reducible refine gate_dst (N:=4) rfl ?_);refine box_event ?hg (N:=4) ?hd (cs:=#[.slice none 0 0,.int .i64 0]) (t:=25) ?hr ?_;(case hd=>rfl);(case hg=>rfl);(case hr=>first|(go_simp;done)|(go_simp;rfl));intro Bd hg w40 hbox hb;have n0_:=Am (bB (g:=Bb) (o:=.cells #[.slice A0_0 l0_0.length c0_0,.int .i64 a0_1] 25 (0,0)) (bL Ba.out) hb);have n1_:=Am (bP (by repeat (first|(with_reducible first|exact HB.out|apply oA|apply pN|apply o1|refine bS ?_ Be.out)|exact HB.out)) hb);have n2_:=Am (hbox);have n3_:=Am ((by rw [hg];exact (bZ (by repeat (first|(with_reducible first|exact HB.out|apply oA|apply pN|apply o1|refine bS ?_ Be.out)|exact HB.out))):w.heap.size≤Bd));have n4_:=Am ((by rw [hg];exact (bZ (by repeat (first|(with_reducible first|exact HB.out|apply oA|apply pN|apply o1|refine bS ?_ Be.out)|exact HB.out))):w.heap.size≤Bd));have n5_:=Am ((by rw [hg];exact Nat.ne_of_lt (blk_lt (g:=Bb) (o:=.cells #[.slice A0_0 l0_0.length c0_0,.int .i64 a0_1] 25 (0,0)) (bL Ba.out)):Bb≠Bd));have n6_:=Am ((by rw [hg];exact Nat.ne_of_gt (blk_lt (g:=Bb) (o:=.cells #[.slice A0_0 l0_0.length c0_0,.int .i64 a0_1] 25 (0,0)) (bL Ba.out)):Bd≠Bb));clear Ba HB;revert n0_ n1_ n2_ n3_ n4_ n5_ n6_;intro Ba HB Bc Bq Bi Bj Bk;clear hb hbox hg;have Dq:=Bj.out;have Dr:=Bk.out;have B7:w40.cell? ⟨Bb,0,none⟩=some (.slice A0_0 l0_0.length c0_0):=(bC Ba.out 0).trans rfl;have B8:w40.cell? ⟨Bb,1,none⟩=some (.int .i64 a0_1):=(bC Ba.out 1).trans rfl;have B9:=bF Ba.out 0;have Da:=bF Ba.out 1)|((with_reducible refine gate_callee (f:=38) rfl ?_);refine goesL_ (some 10) rfl rfl Try.func38 (by kernel_rfl) rfl #[.agg #[.slice A0_0 l0_0.length c0_0,.int .i64 a0_1],.int .i64 a1] rfl (by (try simp only [lM,lC,lN]);first|done|rfl|(simp only [lD,lT];rfl)) ?_;(with_reducible refine (spec_l11At.calls k _ _ l0_0 a0_1 a1 t279 _ ?side1 ?side2 A3.out).mono ?_);(case side1=>repeat (first|exact (cB HR0_0.out HB.out)|(with_reducible refine cA ?_ _)|(with_reducible refine cN ?_ _)|(with_reducible refine cD ?_)));(case side2=>exact HC0_0.out);rintro e w43 ⟨rfl,hb⟩;refine ⟨_,rfl,?_⟩;have n0_:=Am (bB (g:=Bb) (o:=.cells #[.slice A0_0 l0_0.length c0_0,.int .i64 a0_1] 25 (0,0)) (bL Ba.out) hb);have n1_:=Am (bB (g:=Bd) (o:=.cells #[.slice none 0 0,.int .i64 0] 25 (0,0)) (bL Bc.out) hb);have n2_:=Am (bP (by repeat (first|(with_reducible first|exact HB.out|apply oA|apply pN|apply o1|refine bS ?_ Be.out|refine bS ?_ Bi.out)|exact HB.out)) hb);clear Ba Bc HB;revert n0_ n1_ n2_;intro Ba Bc HB;(try clear hb);(try clear hb2);(try clear hk);(try clear hi);have Db:w43.cell? ⟨Bb,0,none⟩=some (.slice A0_0 l0_0.length c0_0):=(bC Ba.out 0).trans rfl;have Dc:w43.cell? ⟨Bb,1,none⟩=some (.int .i64 a0_1):=(bC Ba.out 1).trans rfl;have Dd:=bF Ba.out 0;have De:=bF Ba.out 1)|((with_reducible refine gate_callee (f:=18) rfl ?_);refine goesL_ (some 12) rfl rfl Try.func18 (by kernel_rfl) rfl #[.agg #[.slice A0_0 l0_0.length c0_0,.int .i64 a0_1]] rfl (by (try simp only [lM,lC,lN]);first|done|rfl|(simp only [lD,lT];rfl)) ?_;(with_reducible refine (spec_QueueOk.calls k _ _ l0_0 a0_1 false _ ?side1 ?side2 A4.out).mono ?_);(case side1=>repeat (first|exact (cB HR0_0.out HB.out)|(with_reducible refine cA ?_ _)|(with_reducible refine cN ?_ _)|(with_reducible refine cD ?_)));(case side2=>exact HC0_0.out);rintro e w45 ⟨rfl,hb⟩;refine ⟨_,rfl,?_⟩;have n0_:=Am (bB (g:=Bb) (o:=.cells #[.slice A0_0 l0_0.length c0_0,.int .i64 a0_1] 25 (0,0)) (bL Ba.out) hb);have n1_:=Am (bB (g:=Bd) (o:=.cells #[.slice none 0 0,.int .i64 0] 25 (0,0)) (bL Bc.out) hb);have n2_:=Am (bP (by repeat (first|(with_reducible first|exact HB.out|apply oA|apply pN|apply o1|refine bS ?_ Be.out|refine bS ?_ Bi.out)|exact HB.out)) hb);clear Ba Bc HB;revert n0_ n1_ n2_;intro Ba Bc HB;(try clear hb);(try clear hb2);(try clear hk);(try clear hi);have Df:w45.cell? ⟨Bd,0,none⟩=some (.slice none 0 0):=(bC Bc.out 0).trans rfl;have Dg:w45.cell? ⟨Bd,1,none⟩=some (.int .i64 0):=(bC Bc.out 1).trans rfl;have Dh:=bF Bc.out 0;have Di:=bF Bc.out 1))
  refine bodyPost_ret (results_ct rfl _ _ Bd 25 #[.slice none 0 0,.int .i64 0] (0,0) _ rfl (by (with_reducible repeat (first|refine bN ?_ _|refine bD ?_|refine bA ?_ _));refine blk_put (cs:=#[.slice none 0 0,.int .i64 0]) ?_ 1 _ rfl;(with_reducible repeat (first|refine bN ?_ _|refine bD ?_|refine bA ?_ _));refine blk_put (cs:=#[.slice none 0 0,.int .i64 0]) ?_ 0 _ rfl;(with_reducible repeat (first|refine bN ?_ _|refine bD ?_|refine bA ?_ _));exact Bc.out) Try.underlying25 rfl (by kernel_rfl)) rfl ?_
  exact ⟨_,by first|rfl|(simp [errW_none,errW_some] <;> rfl)|(simp [*,errW_none,errW_some] <;> rfl),by first|exact Kd.R_nil _ _ _ _ _|exact Kd.N_nil _ _ _ _ _|exact Kd.V_nil _ _ _ _ _|exact Kd.Q_nil _ _ _ _ _|exact Kd.S_nil _ _ _ _ _,by repeat (first|(with_reducible first|exact HB.out|apply oA|apply pN|apply o1|refine bS ?_ Be.out|refine bS ?_ Bi.out)|exact HB.out)⟩

 subst c5
 have H1:(if t279<0 then (some (([]:List (S40)),0,false)) else ((spec_l11Copy.f l0_0 a0_1).bind fun bt281=>(if 0≤t279 then (if t279<(bt281.1.length:Int) then (some ((bt281.1.set (t279:Int).toNat (⟨(rd_T40 bt281.1 t279).f0,(rd_T40 bt281.1 t279).f1,(rd_T40 bt281.1 t279).f2,false⟩:S40)),bt281.2,true)) else (none)) else (none))))=some (r1,r2,r3):=by rw [if_pos rfl] at H;exact H
 clear H
 have H:=H1
 clear H1
 by_cases c6:t279<0
 ·rw [if_pos c6] at H
  have c6b0:decide (t279<0)=true:=decide_eq_true c6
  clear c6
  simp only [Option.some.injEq,Prod.mk.injEq] at H
  obtain ⟨rfl,rfl,rfl⟩:=H
  go_enter Try.func26,Try.ntmps26
  go_wp2_with (first|((with_reducible refine gate_dst (N:=2) rfl ?_);refine box_event ?hg (N:=2) ?hd (cs:=#[.slice A0_0 l0_0.length c0_0,.int .i64 a0_1]) (t:=25) ?hr ?_;(case hd=>rfl);(case hg=>rfl);(case hr=>first|(go_simp;done)|(go_simp;rfl));intro Bb hg w7 hbox hb;have n0_:=Am (bP (by repeat (first|(with_reducible first|exact HB.out|apply oA|apply pN|apply o1)|exact HB.out)) hb);have n1_:=Am (hbox);have n2_:=Am ((by rw [hg];exact (bZ (by repeat (first|(with_reducible first|exact HB.out|apply oA|apply pN|apply o1)|exact HB.out))):w.heap.size≤Bb));have n3_:=Am ((by rw [hg];exact (bZ (by repeat (first|(with_reducible first|exact HB.out|apply oA|apply pN|apply o1)|exact HB.out))):w.heap.size≤Bb));clear HB;revert n0_ n1_ n2_ n3_;intro HB Ba Bp Be;clear hb hbox hg)|((with_reducible refine gate_dst (N:=4) rfl ?_);refine box_event ?hg (N:=4) ?hd (cs:=#[.slice none 0 0,.int .i64 0]) (t:=25) ?hr ?_;(case hd=>rfl);(case hg=>rfl);(case hr=>first|(go_simp;done)|(go_simp;rfl));intro Bd hg w8 hbox hb;have n0_:=Am (bB (g:=Bb) (o:=.cells #[.slice A0_0 l0_0.length c0_0,.int .i64 a0_1] 25 (0,0)) (bL Ba.out) hb);have n1_:=Am (bP (by repeat (first|(with_reducible first|exact HB.out|apply oA|apply pN|apply o1|refine bS ?_ Be.out)|exact HB.out)) hb);have n2_:=Am (hbox);have n3_:=Am ((by rw [hg];exact (bZ (by repeat (first|(with_reducible first|exact HB.out|apply oA|apply pN|apply o1|refine bS ?_ Be.out)|exact HB.out))):w.heap.size≤Bd));have n4_:=Am ((by rw [hg];exact (bZ (by repeat (first|(with_reducible first|exact HB.out|apply oA|apply pN|apply o1|refine bS ?_ Be.out)|exact HB.out))):w.heap.size≤Bd));have n5_:=Am ((by rw [hg];exact Nat.ne_of_lt (blk_lt (g:=Bb) (o:=.cells #[.slice A0_0 l0_0.length c0_0,.int .i64 a0_1] 25 (0,0)) (bL Ba.out)):Bb≠Bd));have n6_:=Am ((by rw [hg];exact Nat.ne_of_gt (blk_lt (g:=Bb) (o:=.cells #[.slice A0_0 l0_0.length c0_0,.int .i64 a0_1] 25 (0,0)) (bL Ba.out)):Bd≠Bb));clear Ba HB;revert n0_ n1_ n2_ n3_ n4_ n5_ n6_;intro Ba HB Bc Bq Bi Bj Bk;clear hb hbox hg;have Ds:=Bj.out;have Dt:=Bk.out;have Bt:w8.cell? ⟨Bb,0,none⟩=some (.slice A0_0 l0_0.length c0_0):=(bC Ba.out 0).trans rfl;have Bu:w8.cell? ⟨Bb,1,none⟩=some (.int .i64 a0_1):=(bC Ba.out 1).trans rfl;have Bv:=bF Ba.out 0;have Bw:=bF Ba.out 1)|((with_reducible refine gate_callee (f:=38) rfl ?_);refine goesL_ (some 10) rfl rfl Try.func38 (by kernel_rfl) rfl #[.agg #[.slice A0_0 l0_0.length c0_0,.int .i64 a0_1],.int .i64 a1] rfl (by (try simp only [lM,lC,lN]);first|done|rfl|(simp only [lD,lT];rfl)) ?_;(with_reducible refine (spec_l11At.calls k _ _ l0_0 a0_1 a1 t279 _ ?side1 ?side2 A3.out).mono ?_);(case side1=>repeat (first|exact (cB HR0_0.out HB.out)|(with_reducible refine cA ?_ _)|(with_reducible refine cN ?_ _)|(with_reducible refine cD ?_)));(case side2=>exact HC0_0.out);rintro e w11 ⟨rfl,hb⟩;refine ⟨_,rfl,?_⟩;have n0_:=Am (bB (g:=Bb) (o:=.cells #[.slice A0_0 l0_0.length c0_0,.int .i64 a0_1] 25 (0,0)) (bL Ba.out) hb);have n1_:=Am (bB (g:=Bd) (o:=.cells #[.slice none 0 0,.int .i64 0] 25 (0,0)) (bL Bc.out) hb);have n2_:=Am (bP (by repeat (first|(with_reducible first|exact HB.out|apply oA|apply pN|apply o1|refine bS ?_ Be.out|refine bS ?_ Bi.out)|exact HB.out)) hb);clear Ba Bc HB;revert n0_ n1_ n2_;intro Ba Bc HB;(try clear hb);(try clear hb2);(try clear hk);(try clear hi);have Bx:w11.cell? ⟨Bb,0,none⟩=some (.slice A0_0 l0_0.length c0_0):=(bC Ba.out 0).trans rfl;have By:w11.cell? ⟨Bb,1,none⟩=some (.int .i64 a0_1):=(bC Ba.out 1).trans rfl;have Bz:=bF Ba.out 0;have BA:=bF Ba.out 1)|((with_reducible refine gate_callee (f:=18) rfl ?_);refine goesL_ (some 12) rfl rfl Try.func18 (by kernel_rfl) rfl #[.agg #[.slice A0_0 l0_0.length c0_0,.int .i64 a0_1]] rfl (by (try simp only [lM,lC,lN]);first|done|rfl|(simp only [lD,lT];rfl)) ?_;(with_reducible refine (spec_QueueOk.calls k _ _ l0_0 a0_1 true _ ?side1 ?side2 A4.out).mono ?_);(case side1=>repeat (first|exact (cB HR0_0.out HB.out)|(with_reducible refine cA ?_ _)|(with_reducible refine cN ?_ _)|(with_reducible refine cD ?_)));(case side2=>exact HC0_0.out);rintro e w13 ⟨rfl,hb⟩;refine ⟨_,rfl,?_⟩;have n0_:=Am (bB (g:=Bb) (o:=.cells #[.slice A0_0 l0_0.length c0_0,.int .i64 a0_1] 25 (0,0)) (bL Ba.out) hb);have n1_:=Am (bB (g:=Bd) (o:=.cells #[.slice none 0 0,.int .i64 0] 25 (0,0)) (bL Bc.out) hb);have n2_:=Am (bP (by repeat (first|(with_reducible first|exact HB.out|apply oA|apply pN|apply o1|refine bS ?_ Be.out|refine bS ?_ Bi.out)|exact HB.out)) hb);clear Ba Bc HB;revert n0_ n1_ n2_;intro Ba Bc HB;(try clear hb);(try clear hb2);(try clear hk);(try clear hi);have BB:w13.cell? ⟨Bd,0,none⟩=some (.slice none 0 0):=(bC Bc.out 0).trans rfl;have BC:w13.cell? ⟨Bd,1,none⟩=some (.int .i64 0):=(bC Bc.out 1).trans rfl;have BD:=bF Bc.out 0;have BE:=bF Bc.out 1))
  refine bodyPost_ret (results_ct rfl _ _ Bd 25 #[.slice none 0 0,.int .i64 0] (0,0) _ rfl (by (with_reducible repeat (first|refine bN ?_ _|refine bD ?_|refine bA ?_ _));refine blk_put (cs:=#[.slice none 0 0,.int .i64 0]) ?_ 1 _ rfl;(with_reducible repeat (first|refine bN ?_ _|refine bD ?_|refine bA ?_ _));refine blk_put (cs:=#[.slice none 0 0,.int .i64 0]) ?_ 0 _ rfl;(with_reducible repeat (first|refine bN ?_ _|refine bD ?_|refine bA ?_ _));exact Bc.out) Try.underlying25 rfl (by kernel_rfl)) rfl ?_
  exact ⟨_,by first|rfl|(simp [errW_none,errW_some] <;> rfl)|(simp [*,errW_none,errW_some] <;> rfl),by first|exact Kd.R_nil _ _ _ _ _|exact Kd.N_nil _ _ _ _ _|exact Kd.V_nil _ _ _ _ _|exact Kd.Q_nil _ _ _ _ _|exact Kd.S_nil _ _ _ _ _,by repeat (first|(with_reducible first|exact HB.out|apply oA|apply pN|apply o1|refine bS ?_ Be.out|refine bS ?_ Bi.out)|exact HB.out)⟩
 rw [if_neg c6] at H
 have c6b0:decide (t279<0)=false:=decide_eq_false c6
 clear c6
 replace H:=oC H
 obtain ⟨⟨t281,t284⟩,A150,H⟩:=H
 replace H:(if 0≤t279 then (if t279<(t281.length:Int) then (some ((t281.set (t279:Int).toNat (⟨(rd_T40 t281 t279).f0,(rd_T40 t281 t279).f1,(rd_T40 t281 t279).f2,false⟩:S40)),t284,true)) else (none)) else (none))=some (r1,r2,r3):=H
 have A15:=Am A150
 clear A150
 by_cases c16:0≤t279
 rotate_left
 ·rw [if_neg c16] at H
  exact absurd H (by simp)
 rw [if_pos c16] at H
 have c16b0:decide (0≤t279)=true:=decide_eq_true c16
 clear c16
 by_cases c17:t279<(t281.length:Int)
 rotate_left
 ·rw [if_neg c17] at H
  exact absurd H (by simp)
 rw [if_pos c17] at H
 have c17b0:decide (t279<(t281.length:Int))=true:=decide_eq_true c17
 clear c17
 obtain ⟨y286,hy286⟩:∃ y_:List (S40),y_=(t281.set (t279:Int).toNat (⟨(rd_T40 t281 t279).f0,(rd_T40 t281 t279).f1,(rd_T40 t281 t279).f2,false⟩:S40)):=⟨_,rfl⟩
 replace H:(some (y286,t284,true))=some (r1,r2,r3):=by first|(rw [hy286];with_reducible exact H)|(have H2_:=(Option.bind_some _ _).symm.trans H;rw [hy286];with_reducible exact H2_)|(have H2_:=(Option.bind_some _ _).symm.trans H;with_reducible exact H2_)|with_reducible exact H|(rw [hy286];exact H)|exact H
 have Ny286:=Am hy286
 clear hy286
 simp only [Option.some.injEq,Prod.mk.injEq] at H
 obtain ⟨rfl,rfl,rfl⟩:=H
 go_enter Try.func26,Try.ntmps26
 go_wp2_with (first|((with_reducible refine gate_dst (N:=2) rfl ?_);refine box_event ?hg (N:=2) ?hd (cs:=#[.slice A0_0 l0_0.length c0_0,.int .i64 a0_1]) (t:=25) ?hr ?_;(case hd=>rfl);(case hg=>rfl);(case hr=>first|(go_simp;done)|(go_simp;rfl));intro Bb hg w19 hbox hb;have n0_:=Am (bP (by repeat (first|(with_reducible first|exact HB.out|apply oA|apply pN|apply o1)|exact HB.out)) hb);have n1_:=Am (hbox);have n2_:=Am ((by rw [hg];exact (bZ (by repeat (first|(with_reducible first|exact HB.out|apply oA|apply pN|apply o1)|exact HB.out))):w.heap.size≤Bb));have n3_:=Am ((by rw [hg];exact (bZ (by repeat (first|(with_reducible first|exact HB.out|apply oA|apply pN|apply o1)|exact HB.out))):w.heap.size≤Bb));clear HB;revert n0_ n1_ n2_ n3_;intro HB Ba Bp Be;clear hb hbox hg)|((with_reducible refine gate_dst (N:=4) rfl ?_);refine box_event ?hg (N:=4) ?hd (cs:=#[.slice none 0 0,.int .i64 0]) (t:=25) ?hr ?_;(case hd=>rfl);(case hg=>rfl);(case hr=>first|(go_simp;done)|(go_simp;rfl));intro Bd hg w20 hbox hb;have n0_:=Am (bB (g:=Bb) (o:=.cells #[.slice A0_0 l0_0.length c0_0,.int .i64 a0_1] 25 (0,0)) (bL Ba.out) hb);have n1_:=Am (bP (by repeat (first|(with_reducible first|exact HB.out|apply oA|apply pN|apply o1|refine bS ?_ Be.out)|exact HB.out)) hb);have n2_:=Am (hbox);have n3_:=Am ((by rw [hg];exact (bZ (by repeat (first|(with_reducible first|exact HB.out|apply oA|apply pN|apply o1|refine bS ?_ Be.out)|exact HB.out))):w.heap.size≤Bd));have n4_:=Am ((by rw [hg];exact (bZ (by repeat (first|(with_reducible first|exact HB.out|apply oA|apply pN|apply o1|refine bS ?_ Be.out)|exact HB.out))):w.heap.size≤Bd));have n5_:=Am ((by rw [hg];exact Nat.ne_of_lt (blk_lt (g:=Bb) (o:=.cells #[.slice A0_0 l0_0.length c0_0,.int .i64 a0_1] 25 (0,0)) (bL Ba.out)):Bb≠Bd));have n6_:=Am ((by rw [hg];exact Nat.ne_of_gt (blk_lt (g:=Bb) (o:=.cells #[.slice A0_0 l0_0.length c0_0,.int .i64 a0_1] 25 (0,0)) (bL Ba.out)):Bd≠Bb));clear Ba HB;revert n0_ n1_ n2_ n3_ n4_ n5_ n6_;intro Ba HB Bc Bq Bi Bj Bk;clear hb hbox hg;have Dj:=Bj.out;have Dk:=Bk.out;have BF:w20.cell? ⟨Bb,0,none⟩=some (.slice A0_0 l0_0.length c0_0):=(bC Ba.out 0).trans rfl;have BG:w20.cell? ⟨Bb,1,none⟩=some (.int .i64 a0_1):=(bC Ba.out 1).trans rfl;have BH:=bF Ba.out 0;have BI:=bF Ba.out 1)|((with_reducible refine gate_callee (f:=38) rfl ?_);refine goesL_ (some 10) rfl rfl Try.func38 (by kernel_rfl) rfl #[.agg #[.slice A0_0 l0_0.length c0_0,.int .i64 a0_1],.int .i64 a1] rfl (by (try simp only [lM,lC,lN]);first|done|rfl|(simp only [lD,lT];rfl)) ?_;(with_reducible refine (spec_l11At.calls k _ _ l0_0 a0_1 a1 t279 _ ?side1 ?side2 A3.out).mono ?_);(case side1=>repeat (first|exact (cB HR0_0.out HB.out)|(with_reducible refine cA ?_ _)|(with_reducible refine cN ?_ _)|(with_reducible refine cD ?_)));(case side2=>exact HC0_0.out);rintro e w23 ⟨rfl,hb⟩;refine ⟨_,rfl,?_⟩;have n0_:=Am (bB (g:=Bb) (o:=.cells #[.slice A0_0 l0_0.length c0_0,.int .i64 a0_1] 25 (0,0)) (bL Ba.out) hb);have n1_:=Am (bB (g:=Bd) (o:=.cells #[.slice none 0 0,.int .i64 0] 25 (0,0)) (bL Bc.out) hb);have n2_:=Am (bP (by repeat (first|(with_reducible first|exact HB.out|apply oA|apply pN|apply o1|refine bS ?_ Be.out|refine bS ?_ Bi.out)|exact HB.out)) hb);clear Ba Bc HB;revert n0_ n1_ n2_;intro Ba Bc HB;(try clear hb);(try clear hb2);(try clear hk);(try clear hi);have BJ:w23.cell? ⟨Bb,0,none⟩=some (.slice A0_0 l0_0.length c0_0):=(bC Ba.out 0).trans rfl;have BK:w23.cell? ⟨Bb,1,none⟩=some (.int .i64 a0_1):=(bC Ba.out 1).trans rfl;have BL:=bF Ba.out 0;have BM:=bF Ba.out 1)|((with_reducible refine gate_callee (f:=18) rfl ?_);refine goesL_ (some 12) rfl rfl Try.func18 (by kernel_rfl) rfl #[.agg #[.slice A0_0 l0_0.length c0_0,.int .i64 a0_1]] rfl (by (try simp only [lM,lC,lN]);first|done|rfl|(simp only [lD,lT];rfl)) ?_;(with_reducible refine (spec_QueueOk.calls k _ _ l0_0 a0_1 true _ ?side1 ?side2 A4.out).mono ?_);(case side1=>repeat (first|exact (cB HR0_0.out HB.out)|(with_reducible refine cA ?_ _)|(with_reducible refine cN ?_ _)|(with_reducible refine cD ?_)));(case side2=>exact HC0_0.out);rintro e w25 ⟨rfl,hb⟩;refine ⟨_,rfl,?_⟩;have n0_:=Am (bB (g:=Bb) (o:=.cells #[.slice A0_0 l0_0.length c0_0,.int .i64 a0_1] 25 (0,0)) (bL Ba.out) hb);have n1_:=Am (bB (g:=Bd) (o:=.cells #[.slice none 0 0,.int .i64 0] 25 (0,0)) (bL Bc.out) hb);have n2_:=Am (bP (by repeat (first|(with_reducible first|exact HB.out|apply oA|apply pN|apply o1|refine bS ?_ Be.out|refine bS ?_ Bi.out)|exact HB.out)) hb);clear Ba Bc HB;revert n0_ n1_ n2_;intro Ba Bc HB;(try clear hb);(try clear hb2);(try clear hk);(try clear hi);have BN:w25.cell? ⟨Bb,0,none⟩=some (.slice A0_0 l0_0.length c0_0):=(bC Ba.out 0).trans rfl;have BO:w25.cell? ⟨Bb,1,none⟩=some (.int .i64 a0_1):=(bC Ba.out 1).trans rfl;have BP:=bF Ba.out 0;have BQ:=bF Ba.out 1)|((with_reducible refine gate_callee (f:=40) rfl ?_);refine goesL_ (some 20) rfl rfl Try.func40 (by kernel_rfl) rfl #[.agg #[.slice A0_0 l0_0.length c0_0,.int .i64 a0_1]] rfl (by (try simp only [lM,lC,lN]);first|done|rfl|(simp only [lD,lT];rfl)) ?_;(with_reducible refine (spec_l11Copy.calls _ _ l0_0 a0_1 t281 t284 _ ?side1 ?side2 A15.out).mono ?_);(case side1=>repeat (first|exact (cB HR0_0.out HB.out)|(with_reducible refine cA ?_ _)|(with_reducible refine cN ?_ _)|(with_reducible refine cD ?_)));(case side2=>exact HC0_0.out);rintro e w27 ⟨v282,rfl,ho0,hb⟩;refine ⟨_,rfl,?_⟩;have n0_:=Am (Kd.R_lower ho0 (bZ (by repeat (first|(with_reducible first|exact HB.out|apply oA|apply pN|apply o1|refine bS ?_ Be.out|refine bS ?_ Bi.out)|exact HB.out))));have n1_:=Am (bB (g:=Bb) (o:=.cells #[.slice A0_0 l0_0.length c0_0,.int .i64 a0_1] 25 (0,0)) (bL Ba.out) hb);have n2_:=Am (bB (g:=Bd) (o:=.cells #[.slice none 0 0,.int .i64 0] 25 (0,0)) (bL Bc.out) hb);have n3_:=Am (bP (by repeat (first|(with_reducible first|exact HB.out|apply oA|apply pN|apply o1|refine bS ?_ Be.out|refine bS ?_ Bi.out)|exact HB.out)) hb);clear Ba Bc HB;revert n0_ n1_ n2_ n3_;intro Bg Ba Bc HB;(try clear hb);(try clear hb2);(try clear hk);(try clear hi);(try clear ho0))|((with_reducible refine gate_dst (N:=7) rfl ?_);refine box_event ?hg (N:=7) ?hd (cs:=#[.slice none 0 0,.int .i64 0]) (t:=25) ?hr ?_;(case hd=>rfl);(case hg=>rfl);(case hr=>first|(go_simp;done)|(go_simp;rfl));intro Bh hg w28 hbox hb;have n0_:=Am (rB (rL Bg.out) hb);have n1_:=Am (bB (g:=Bb) (o:=.cells #[.slice A0_0 l0_0.length c0_0,.int .i64 a0_1] 25 (0,0)) (bL Ba.out) hb);have n2_:=Am (bB (g:=Bd) (o:=.cells #[.slice none 0 0,.int .i64 0] 25 (0,0)) (bL Bc.out) hb);have n3_:=Am (bP (by repeat (first|(with_reducible first|exact HB.out|apply oA|apply pN|apply o1|refine bS ?_ Be.out|refine bS ?_ Bi.out)|exact HB.out)) hb);have n4_:=Am (hbox);have n5_:=Am ((by rw [hg];exact (bZ (by repeat (first|(with_reducible first|exact HB.out|apply oA|apply pN|apply o1|refine bS ?_ Be.out|refine bS ?_ Bi.out)|exact HB.out))):w.heap.size≤Bh));have n6_:=Am ((by rw [hg];exact (bZ (by repeat (first|(with_reducible first|exact HB.out|apply oA|apply pN|apply o1|refine bS ?_ Be.out|refine bS ?_ Bi.out)|exact HB.out))):w.heap.size≤Bh));have n7_:=Am ((by rw [hg];exact Nat.ne_of_lt (blk_lt (g:=Bb) (o:=.cells #[.slice A0_0 l0_0.length c0_0,.int .i64 a0_1] 25 (0,0)) (bL Ba.out)):Bb≠Bh));have n8_:=Am ((by rw [hg];exact Nat.ne_of_gt (blk_lt (g:=Bb) (o:=.cells #[.slice A0_0 l0_0.length c0_0,.int .i64 a0_1] 25 (0,0)) (bL Ba.out)):Bh≠Bb));have n9_:=Am ((by rw [hg];exact Nat.ne_of_lt (blk_lt (g:=Bd) (o:=.cells #[.slice none 0 0,.int .i64 0] 25 (0,0)) (bL Bc.out)):Bd≠Bh));have n10_:=Am ((by rw [hg];exact Nat.ne_of_gt (blk_lt (g:=Bd) (o:=.cells #[.slice none 0 0,.int .i64 0] 25 (0,0)) (bL Bc.out)):Bh≠Bd));clear Bg Ba Bc HB;revert n0_ n1_ n2_ n3_ n4_ n5_ n6_ n7_ n8_ n9_ n10_;intro Bg Ba Bc HB Bf Dl Br Bl Bn Bm Bo;clear hb hbox hg;obtain ⟨Ao29,co29,eo29⟩:=Kd.R_slice Bg.out;subst eo29;have Dm:=Bn.out;have Dn:=Bl.out;have Do:=Bo.out;have Dp:=Bm.out;have BR:w28.cell? ⟨Bh,0,none⟩=some (.slice none 0 0):=(bC Bf.out 0).trans rfl;have BS:w28.cell? ⟨Bh,1,none⟩=some (.int .i64 0):=(bC Bf.out 1).trans rfl;have BT:=bF Bf.out 0;have BU:=bF Bf.out 1)|((with_reducible refine gate_store (t:=25) (p:=7) rfl ?_);refine store_event (t:=25) (p:=7) (v:=?vo_w33) (w1:=((w28.setCell ⟨Bh,0,none⟩ (.slice Ao29 t281.length co29)).setCell ⟨Bh,1,none⟩ (.int .i64 t284))) ?hg ?ho ?hn ?hr ?_;(case ho=>rfl);(case hg=>rfl);(case hn=>rfl);(case hr=>first|(go_simp;done)|(go_simp;rfl));intro w33 hw;have n0_:Aside0 (Kd.R k40 40 w33 w.heap.size (fun _=>True) (.slice Ao29 t281.length co29) t281):=⟨(by rw [hw];exact (by (with_reducible repeat (first|apply rA|apply rN|apply rD));exact rM (rF (p:=⟨Bh,1,none⟩) (rF (p:=⟨Bh,0,none⟩) (rT Bg.out Bf.out (by decide)) (fun _ hk=>hk.2) (.slice Ao29 t281.length co29)) (fun _ hk=>hk.2) (.int .i64 t284)) (fun _ hk=>trivial)))⟩;have n1_:Aside0 (w33.heap[Bb]?=some (.cells #[.slice A0_0 l0_0.length c0_0,.int .i64 a0_1] 25 (0,0))):=⟨(by rw [hw];exact (by (with_reducible repeat (first|refine bN ?_ _|refine bD ?_|refine bA ?_ _|refine blk_far ?_ Bl.out _));exact Ba.out))⟩;have n2_:Aside0 (w33.heap[Bd]?=some (.cells #[.slice none 0 0,.int .i64 0] 25 (0,0))):=⟨(by rw [hw];exact (by (with_reducible repeat (first|refine bN ?_ _|refine bD ?_|refine bA ?_ _|refine blk_far ?_ Bm.out _));exact Bc.out))⟩;have n3_:Aside0 (w33.heap[Bh]?=some (.cells #[.slice Ao29 t281.length co29,.int .i64 t284] 25 (0,0))):=⟨(by rw [hw];exact (by (with_reducible repeat (first|refine bN ?_ _|refine bD ?_|refine bA ?_ _));refine blk_put (cs:=#[.slice Ao29 t281.length co29,.int .i64 0]) ?_ 1 _ rfl;(with_reducible repeat (first|refine bN ?_ _|refine bD ?_|refine bA ?_ _));refine blk_put (cs:=#[.slice none 0 0,.int .i64 0]) ?_ 0 _ rfl;(with_reducible repeat (first|refine bN ?_ _|refine bD ?_|refine bA ?_ _));exact Bf.out))⟩;have n4_:Aside0 (Below w.heap.size w w33):=⟨(by rw [hw];exact (by repeat (first|(with_reducible first|exact HB.out|apply oA|apply pN|apply o1|refine bS ?_ Be.out|refine bS ?_ Bi.out|refine bS ?_ Br.out)|exact HB.out)))⟩;clear hw Bg Ba Bc Bf HB;revert n0_ n1_ n2_ n3_ n4_;intro Bg Ba Bc Bf HB;have BV:w33.cell? ⟨Bh,0,none⟩=some (.slice Ao29 t281.length co29):=(bC Bf.out 0).trans rfl;have BW:w33.cell? ⟨Bh,1,none⟩=some (.int .i64 t284):=(bC Bf.out 1).trans rfl;have BX:=bF Bf.out 0;have BY:=bF Bf.out 1;have p18:0≤(t279:Int):=of_decide_eq_true (by first|(with_reducible assumption)|assumption);have q18:(t279:Int)<((t281.length:Int):Int):=of_decide_eq_true (by first|(with_reducible assumption)|assumption);obtain ⟨go18,co18,eo18,Bs,gl18,cl18,HG18⟩:=Kd.R_form Bg.out (by omega);(first|cases eo18|(injection eo18 with ea_ en_ ec_;(first|subst ea_|(injection ea_ with ea_;subst ea_));subst ec_;clear en_));have GB18:=Am Bs;have GG18:=Am HG18;clear Bs gl18 HG18;obtain ⟨ce18,hcl18,hM18,hcc18,hfr18⟩:=Kd.R_elem Bg.out z40 (t279:Int) p18 q18;obtain rfl:=k40_openM hM18;have hx18_0:w33.cell? ⟨go18,(t279:Int).toNat * 4,none⟩=some (.int .i64 ((rd_T40 t281 t279).f0)):=hcc18 0 _ rfl;have hx18_1:w33.cell? ⟨go18,(t279:Int).toNat * 4 + 1,none⟩=some (.int .i64 ((rd_T40 t281 t279).f1)):=hcc18 1 _ rfl;have hx18_2:w33.cell? ⟨go18,(t279:Int).toNat * 4 + 2,none⟩=some (.int .i64 ((rd_T40 t281 t279).f2)):=hcc18 2 _ rfl;have hx18_3:w33.cell? ⟨go18,(t279:Int).toNat * 4 + 3,none⟩=some (.bool ((rd_T40 t281 t279).f3)):=hcc18 3 _ rfl;have hf18_0:w33.frozen? ⟨go18,(t279:Int).toNat * 4,none⟩=false:=hfr18 0;have hf18_1:w33.frozen? ⟨go18,(t279:Int).toNat * 4 + 1,none⟩=false:=hfr18 1;have hf18_2:w33.frozen? ⟨go18,(t279:Int).toNat * 4 + 2,none⟩=false:=hfr18 2;have hf18_3:w33.frozen? ⟨go18,(t279:Int).toNat * 4 + 3,none⟩=false:=hfr18 3;clear hcl18 hcc18 hfr18 hM18;replace p18:=eq_true p18;replace q18:=eq_true q18;have HX35:=Am (show Kd.R k40 40 w33 w.heap.size (fun _=>True) (.slice (some ⟨go18,0,none⟩) t281.length co29) t281 from (rL Bg.out));obtain ⟨ce35,hcl35,hM35,hcc35,hfr35⟩:=Kd.R_elem HX35.out z40 (t279:Int) (of_decide_eq_true (by first|(with_reducible assumption)|assumption)) (by have h_:(t279:Int)<((t281.length:Int):Int):=of_decide_eq_true (by first|(with_reducible assumption)|assumption);first|exact h_|(have e_:=(Kd.R_reads' Bg.out).1;omega)|simpa using h_);obtain rfl:=k40_openM hM35;have HP35:=Kd.R_seg HX35.out (t279:Int) (of_decide_eq_true (by first|(with_reducible assumption)|assumption)) (by have h_:(t279:Int)<((t281.length:Int):Int):=of_decide_eq_true (by first|(with_reducible assumption)|assumption);first|exact h_|(have e_:=(Kd.R_reads' Bg.out).1;omega)|simpa using h_) (seg:=[.bool false]) (j:=3) hcl35 hcc35 (show 4≤4 from by decide) (x':=(⟨(rd_T40 t281 t279).f0,(rd_T40 t281 t279).f1,(rd_T40 t281 t279).f2,false⟩:S40)) (k40_mkM _ _ _ (⟨(rd_T40 t281 t279).f0,(rd_T40 t281 t279).f1,(rd_T40 t281 t279).f2,false⟩:S40) ) (fun _ hk=>hk);have hx35_3:=hcc35 3 _ rfl;(try simp only [show (k40).sz=4 from rfl,Nat.mul_one,Nat.add_zero] at hx35_3);have hf35_3:=hfr35 3;(try simp only [show (k40).sz=4 from rfl,Nat.mul_one,Nat.add_zero] at hf35_3);clear hcl35 hcc35 hfr35 hM35)|((with_reducible refine gate_store (t:=4) (p:=25) rfl ?_);refine store_event (t:=4) (p:=25) (v:=?vo_w36) (w1:=(w33.setCell ⟨go18,(t279:Int).toNat * 4 + 3,none⟩ (.bool false))) ?hg ?ho ?hn ?hr ?_;(case ho=>rfl);(case hg=>rfl);(case hn=>rfl);(case hr=>first|(go_simp;done)|(go_simp;rfl));intro w36 hw;have hg:w33.grownBy w36 (some go18):=(by rw [hw];exact HP35.2);have hp_:Kd.R k40 40 w36 w.heap.size (fun _=>True) (.slice (some ⟨go18,0,none⟩) t281.length co29) y286:=(by rw [hw,Ny286.out];exact HP35.1);clear HP35;have n0_:=Am (blk_grown (g:=Bb) (o:=.cells #[.slice A0_0 l0_0.length c0_0,.int .i64 a0_1] 25 (0,0)) (bL Ba.out) hg (Kd.R_ne Bg.out Ba.out (by decide)));have n1_:=Am (blk_grown (g:=Bd) (o:=.cells #[.slice none 0 0,.int .i64 0] 25 (0,0)) (bL Bc.out) hg (Kd.R_ne Bg.out Bc.out (by decide)));have n2_:=Am (hp_);have n3_:=Am (blk_grown (g:=Bh) (o:=.cells #[.slice (some ⟨go18,0,none⟩) t281.length co29,.int .i64 t284] 25 (0,0)) (bL Bf.out) hg (Kd.R_ne Bg.out Bf.out (by decide)));have n4_:=Am ((by rw [hw];exact bS (HB.out) GB18.out:Below w.heap.size w w36));clear Ba Bc Bg Bf HB;revert n0_ n1_ n2_ n3_ n4_;intro Ba Bc Bg Bf HB;clear hg hw hp_;have BZ:w36.cell? ⟨Bh,0,none⟩=some (.slice (some ⟨go18,0,none⟩) t281.length co29):=(bC Bf.out 0).trans rfl;have B0:w36.cell? ⟨Bh,1,none⟩=some (.int .i64 t284):=(bC Bf.out 1).trans rfl;have B1:=bF Bf.out 0;have B2:=bF Bf.out 1;have B3:w36.cell? ⟨Bd,0,none⟩=some (.slice none 0 0):=(bC Bc.out 0).trans rfl;have B4:w36.cell? ⟨Bd,1,none⟩=some (.int .i64 0):=(bC Bc.out 1).trans rfl;have B5:=bF Bc.out 0;have B6:=bF Bc.out 1))
 refine bodyPost_ret (results_ct rfl _ _ Bd 25 #[.slice (some ⟨go18,0,none⟩) t281.length co29,.int .i64 t284] (0,0) _ rfl (by (with_reducible repeat (first|refine bN ?_ _|refine bD ?_|refine bA ?_ _));refine blk_put (cs:=#[.slice (some ⟨go18,0,none⟩) t281.length co29,.int .i64 0]) ?_ 1 _ rfl;(with_reducible repeat (first|refine bN ?_ _|refine bD ?_|refine bA ?_ _));refine blk_put (cs:=#[.slice none 0 0,.int .i64 0]) ?_ 0 _ rfl;(with_reducible repeat (first|refine bN ?_ _|refine bD ?_|refine bA ?_ _));exact Bc.out) Try.underlying25 rfl (by kernel_rfl)) rfl ?_
 exact ⟨_,by first|rfl|(simp [errW_none,errW_some] <;> rfl)|(simp [*,errW_none,errW_some] <;> rfl),by (with_reducible repeat (first|apply rA|apply rN|apply rD));exact rM (rF (p:=⟨Bd,1,none⟩) (rF (p:=⟨Bd,0,none⟩) (rT Bg.out Bc.out (by decide)) (fun _ hk=>hk.2) (.slice (some ⟨go18,0,none⟩) t281.length co29)) (fun _ hk=>hk.2) (.int .i64 t284)) (fun _ hk=>trivial),by repeat (first|(with_reducible first|exact HB.out|apply oA|apply pN|apply o1|refine bS ?_ Be.out|refine bS ?_ Bi.out|refine bS ?_ Br.out)|exact HB.out)⟩
end Go.Proofs.Ytfhcgmfodfcpeaa.PFnQueueSleep
