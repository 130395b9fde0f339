/- Proved here, without a condition beyond those that each theorem states: what the Go functions named below do is what the plain functions of the same names say. Written by xprint.py, a program of this session. -/
import Derived.Test.YtehekikjadjdaaaPFnExactQueueSleepx0
import Derived.Test.YtehekikjadjdaaaPFnExactQueueSleepx4
import Derived.Test.YtehekikjadjdaaaPFnExactQueueSleepx5
namespace Go.Proofs.Ytehekikjadjdaaa.PFnExactQueueSleep
open Go.RowKit Go.Proofs.YtehekikjadjdaaaW.PrintWords Go.Proofs.YtehekikjadjdaaaW.PrintLast Go.Proofs.YtehekikjadjdaaaW.PrintMore
attribute [local go_sem] max2_int min2_int max_two min_two max_three min_three max_four min_four   -- for this text's walks alone
set_option linter.unusedVariables false
set_option linter.unusedSimpArgs false

attribute [local go_sem ↓] isSome_setCell_
/-! ### impl_Task_103: function 103 -/
def impl_Task_103.f (l0 : List (S86)) : Option ((List (S86))) := (some (([] : List (S86)) : List (S86))).bind fun y158 => (if y158.length + l0.length < 4398046511104 then (some (y158 ++ l0)) else (none))
set_option maxHeartbeats 2000000 in
set_option maxRecDepth 100000 in
theorem impl_Task_103.calls (A0:Option Addr) (c0:Nat) (l0:List (S86)) (r:List (S86)) (w:World) (hr0:Kd.C k86 w A0 l0.length l0) (hc0:l0.length≤c0) (h:impl_Task_103.f l0=some r) :
  Calls Try.prog 103 #[.slice A0 l0.length c0] w fun e w'=>∃ v0_:Value,e=.returned (v0_)∧Kd.R k86 86 w' w.heap.size (fun _=>True) v0_ r∧Below w.heap.size w w':=by
 cases A0 with
|none =>
  have hl_:l0=[]:=by
   rcases l0 with _|⟨x_,xs_⟩
   ·rfl
   ·exact absurd (hr0.2.2 (by simp)) (by rintro ⟨_,h_,_⟩;cases h_)
  subst hl_
  have hr_:r=[]:=by
   unfold impl_Task_103.f at h
   simpa using h.symm
  subst hr_
  have q_:∀ (w:World) (a:Option Addr) (n c n' c':Nat),(binOp .eql 45 (.slice a n c) (.slice none n' c')).run Try.prog w=.ok (.bool a.isNone) w:=fun w a n c n' c'=>Lib.run_eql_slice_nil w _ _ a n c n' c' Try.underlying45
  go_enter Try.func103,Try.ntmps103
  go_wp2
  go_ret
  exact ⟨_,rfl,Kd.R_nil _ _ _ _ _,Below.refl _ _⟩
|some ad0_ =>
  have HR0:=Am hr0
  have HC0:=Am hc0
  clear hr0 hc0
  have HB:=Am (Below.refl w.heap.size w)
  have H:((some (([]:List (S86)):List (S86))).bind fun y158=>(if y158.length + l0.length<4398046511104 then (some (y158 ++ l0)) else (none)))=some r:=h
  clear h
  obtain ⟨y158,hy158⟩:∃ y_:List (S86),y_=(([]:List (S86))):=⟨_,rfl⟩
  replace H:(if y158.length + l0.length<4398046511104 then (some (y158 ++ l0)) else (none))=some r:=by first|(rw [hy158];with_reducible exact H)|(have H2_:=(Option.bind_some _ _).symm.trans H;rw [hy158];with_reducible exact H2_)|(have H2_:=(Option.bind_some _ _).symm.trans H;with_reducible exact H2_)|with_reducible exact H|(rw [hy158];exact H)|exact H
  have Ny158:=Am hy158
  clear hy158
  by_cases c2:y158.length + l0.length<4398046511104
  rotate_left
  ·rw [if_neg c2] at H
   exact absurd H (by simp)


  rw [if_pos c2] at H
  have LMc2:=Am c2
  clear c2
  obtain ⟨y161,hy161⟩:∃ y_:List (S86),y_=(y158 ++ l0):=⟨_,rfl⟩
  replace H:(some y161)=some r:=by first|(rw [hy161];with_reducible exact H)|(have H2_:=(Option.bind_some _ _).symm.trans H;rw [hy161];with_reducible exact H2_)|(have H2_:=(Option.bind_some _ _).symm.trans H;with_reducible exact H2_)|with_reducible exact H|(rw [hy161];exact H)|exact H
  have Ny161:=Am hy161
  clear hy161
  obtain rfl:=Option.some.inj H
  have q_:∀ (w:World) (a:Option Addr) (n c n' c':Nat),(binOp .eql 45 (.slice a n c) (.slice none n' c')).run Try.prog w=.ok (.bool a.isNone) w:=fun w a n c n' c'=>Lib.run_eql_slice_nil w _ _ a n c n' c' Try.underlying45
  go_enter Try.func103,Try.ntmps103
  go_wp2_with (first|((with_reducible refine gate_dst (N:=5) rfl ?_);refine Kd.R_lit k86 _ 86 ?hg (N:=5) ?hd (xs:=([]:List (S86))) (inner:=[]) (ok:=fun _=>True) (okp:=fun _=>True) ?hr ?hp (fun _ hk=>hk) trivial (Below.refl _ _) (Nat.le_refl _) (by simp) ?_;(case hd=>rfl);(case hg=>rfl);(case hr=>first|(go_simp;done)|(go_simp;rfl));(case hp=>exact (Reps.none _ _));intro v159 w3 ho4 hb hg_ hnew_;clear hg_ hnew_;(first|rw [← Ny158.out] at ho4|(simp only [Int.reduceToNat] at ho4;rw [← Ny158.out] at ho4));have n0_:=Am (Kd.R_lower ho4 (bZ (by repeat (first|(with_reducible first|exact HB.out|apply oA|apply pN|apply o1)|exact HB.out))));have n1_:=Am (bP (by repeat (first|(with_reducible first|exact HB.out|apply oA|apply pN|apply o1)|exact HB.out)) hb);clear HB;revert n0_ n1_;intro Ba HB;clear hb ho4)|((with_reducible refine gate_builtin (b:=.append) (xs:=#[.tmp 5,.tmp 6]) rfl ?_);at_builtin;refine Kd.R_append_rows k86 (w0:=w) w.heap.size rfl (.tmp 5) (.tmp 6) 45 86 (.agg #[(.int .i64 0),(.int .i64 0),(.int .i64 0),(.bool false)]) 32 rfl Try.underlying45 info86 rfl (by decide) (by omega) v159 y158 l0 _ _ _ (fun _=>True) (fun _=>False) rfl rfl ?aO ?aR (fun _ _ h=>h) (fun _ h=>h.elim) ?aF ?aB ?aS ?aL ?_;(case aR=>repeat (first|exact (cB HR0.out HB.out)|(with_reducible refine cA ?_ _)|(with_reducible refine cN ?_ _)|(with_reducible refine cD ?_)));(case aB=>exact (by repeat (first|(with_reducible first|exact HB.out|apply oA|apply pN|apply o1)|exact HB.out)));(case aF=>exact (fun _ _=>trivial));(case aO=>exact (rL Ba.out));(case aS=>exact (bZ (by repeat (first|(with_reducible first|exact HB.out|apply oA|apply pN|apply o1)|exact HB.out))));(case aL=>have:=LMc2.out;omega);intro v162 w5 ho hb hg hat;rw [← Ny161.out] at ho;have n0_:=Am (hb);have n1_:=Am (ho);clear HB Ba;revert n0_ n1_;intro HB Bb;clear ho hb hg hat))
  go_ret
  exact ⟨_,by first|rfl|(simp [errW_none,errW_some] <;> rfl)|(simp [*,errW_none,errW_some] <;> rfl),by (with_reducible repeat (first|apply rA|apply rN|apply rD));exact Bb.out,by repeat (first|(with_reducible first|exact HB.out|apply oA|apply pN|apply o1)|exact HB.out)⟩/-! ### impl_Queue_clone: function 75 -/
def impl_Queue_clone.f (l0_0 : List (S86)) (a0_1 : Int) : Option ((List (S86)) × Int) := (impl_Task_103.f l0_0).bind fun t166 => (some (t166, a0_1))
set_option maxHeartbeats 2000000 in
set_option maxRecDepth 100000 in
theorem impl_Queue_clone.calls (A0_0:Option Addr) (c0_0:Nat) (l0_0:List (S86)) (a0_1:Int) (r1:List (S86)) (r2:Int) (w:World) (hr0_0:Kd.C k86 w A0_0 l0_0.length l0_0) (hc0_0:l0_0.length≤c0_0) (h:impl_Queue_clone.f l0_0 a0_1=some (r1,r2)) :
  Calls Try.prog 75 #[.agg #[.slice A0_0 l0_0.length c0_0,.int .i64 a0_1]] w fun e w'=>∃ v0_:Value,e=.returned (.agg #[v0_,.int .i64 r2])∧Kd.R k86 86 w' w.heap.size (fun _=>True) v0_ r1∧Below w.heap.size w w':=by
 have hu47:=Try.underlying47
 have HR0_0:=Am hr0_0
 have HC0_0:=Am hc0_0
 clear hr0_0 hc0_0
 have HB:=Am (Below.refl w.heap.size w)
 have H:((impl_Task_103.f l0_0).bind fun t166=>(some (t166,a0_1)))=some (r1,r2):=h
 clear h
 replace H:=oC H
 obtain ⟨t166,A20,H⟩:=H
 replace H:(some (t166,a0_1))=some (r1,r2):=H
 have A2:=Am A20
 clear A20
 simp only [Option.some.injEq,Prod.mk.injEq] at H
 obtain ⟨rfl,rfl⟩:=H
 go_enter Try.func75,Try.ntmps75
 try go_wp2_with (first|((with_reducible refine gate_dst (N:=1) rfl ?_);refine box_event ?hg (N:=1) ?hd (cs:=#[.slice A0_0 l0_0.length c0_0,.int .i64 a0_1]) (t:=47) ?hr ?_;(case hd=>rfl);(case hg=>rfl);(case hr=>first|(go_simp;done)|(go_simp;rfl));intro Be hg w3 hbox hb;have n0_:=Am (bP (by repeat (first|(with_reducible first|exact HB.out|apply oA|apply pN|apply o1)|exact HB.out)) hb);have n1_:=Am (hbox);have n2_:=Am ((by rw [hg];exact (bZ (by repeat (first|(with_reducible first|exact HB.out|apply oA|apply pN|apply o1)|exact HB.out))):w.heap.size≤Be));have n3_:=Am ((by rw [hg];exact (bZ (by repeat (first|(with_reducible first|exact HB.out|apply oA|apply pN|apply o1)|exact HB.out))):w.heap.size≤Be));clear HB;revert n0_ n1_ n2_ n3_;intro HB Ba Bj Bf;clear hb hbox hg)|((with_reducible refine gate_dst (N:=2) rfl ?_);refine box_event ?hg (N:=2) ?hd (cs:=#[.slice none 0 0,.int .i64 0]) (t:=47) ?hr ?_;(case hd=>rfl);(case hg=>rfl);(case hr=>first|(go_simp;done)|(go_simp;rfl));intro Bb hg w4 hbox hb;have n0_:=Am (bB (g:=Be) (o:=.cells #[.slice A0_0 l0_0.length c0_0,.int .i64 a0_1] 47 (0,0)) (bL Ba.out) hb);have n1_:=Am (bP (by repeat (first|(with_reducible first|exact HB.out|apply oA|apply pN|apply o1|refine bS ?_ Bf.out)|exact HB.out)) hb);have n2_:=Am (hbox);have n3_:=Am ((by rw [hg];exact (bZ (by repeat (first|(with_reducible first|exact HB.out|apply oA|apply pN|apply o1|refine bS ?_ Bf.out)|exact HB.out))):w.heap.size≤Bb));have n4_:=Am ((by rw [hg];exact (bZ (by repeat (first|(with_reducible first|exact HB.out|apply oA|apply pN|apply o1|refine bS ?_ Bf.out)|exact HB.out))):w.heap.size≤Bb));have n5_:=Am ((by rw [hg];exact Nat.ne_of_lt (blk_lt (g:=Be) (o:=.cells #[.slice A0_0 l0_0.length c0_0,.int .i64 a0_1] 47 (0,0)) (bL Ba.out)):Be≠Bb));have n6_:=Am ((by rw [hg];exact Nat.ne_of_gt (blk_lt (g:=Be) (o:=.cells #[.slice A0_0 l0_0.length c0_0,.int .i64 a0_1] 47 (0,0)) (bL Ba.out)):Bb≠Be));clear Ba HB;revert n0_ n1_ n2_ n3_ n4_ n5_ n6_;intro Ba HB Bc Bk Bh Bd Bg;clear hb hbox hg))
 have n0_:=Am (bD Ba.out)
 have n1_:=Am (bD Bc.out)
 have n2_:=Am (o1 HB.out)
 clear Ba
 clear Bc
 clear HB
 have Ba:=n0_
 have Bc:=n1_
 have HB:=n2_
 clear n0_ n1_ n2_
 refine start_ (n:=7) (S:=fun w'=>w'.cell? ⟨Be,0,none⟩=some (.slice A0_0 l0_0.length c0_0)∧w'.cell? ⟨Be,1,none⟩=some (.int .i64 a0_1)) (ds:=[]) #[false,false,false,false,false,false,false] (by kernel_rfl) rfl rfl ⟨(bC Ba.out 0).trans rfl,(bC Ba.out 1).trans rfl⟩ (fun hHeld=>?_)
 generalize w4.drew=w5 at Ba Bc HB hHeld ⊢
 refine pure_ (i:=0) (N:=some 3) (v:=?_) (a':=?_) #[true,false,false,false,false,false,false] rfl rfl (by kernel_rfl) (fun _ _ _ h=>h) (Or.inl ⟨by rfl,?_⟩) ?_ ?_
 rotate_left;(intro w';go_simp;with_reducible rfl)
 rotate_left;(simp only [Act.put,lA,lZ,lS,iw,jw];rfl)
 refine pure_ (i:=3) (N:=some 6) (v:=?_) (a':=?_) #[true,false,false,true,false,false,false] rfl rfl (by kernel_rfl) (fun _ _ _ h=>h) (Or.inl ⟨by rfl,?_⟩) ?_ ?_
 rotate_left;(intro w';go_simp;with_reducible rfl)
 rotate_left;(simp only [Act.put,lA,lZ,lS,iw,jw];rfl)
 refine take_ (i:=1) (N:=some 4) (v:=?_) (a':=?_) #[true,true,false,true,false,false,false] rfl rfl (by kernel_rfl) (fun _ _ _ h=>h) (Or.inl ⟨by rfl,?_⟩) hHeld ?_ ?_
 rotate_left;(rintro w' ⟨s0,s1⟩;go_simp;with_reducible rfl)
 rotate_left;(simp only [Act.put,lA,lZ,lS,iw,jw];rfl)
 refine take_ (i:=4) (N:=some 7) (v:=?_) (a':=?_) #[true,true,false,true,true,false,false] rfl rfl (by kernel_rfl) (fun _ _ _ h=>h) (Or.inl ⟨by rfl,?_⟩) hHeld ?_ ?_
 rotate_left;(rintro w' ⟨s0,s1⟩;go_simp;with_reducible rfl)
 rotate_left;(simp only [Act.put,lA,lZ,lS,iw,jw];rfl)
 refine one_ (i:=2) (N:=some 5) #[true,true,true,true,true,false,false] rfl rfl (by kernel_rfl) (by decide) (fun K hK=>?_)
 refine goes_ Try.func103 (by kernel_rfl) rfl #[.slice A0_0 l0_0.length c0_0] (by rfl) rfl rfl (by (try simp only [lM,lC,lN]);first|done|rfl|(simp only [lD,lT];rfl)) ?_
 with_reducible refine (impl_Task_103.calls _ _ l0_0 t166 _ ?side1 ?side2 A2.out).mono ?_
 (case side1=>repeat (first|exact (cB HR0_0.out HB.out)|(with_reducible refine cA ?_ _)|(with_reducible refine cN ?_ _)|(with_reducible refine cD ?_)))
 (case side2=>exact HC0_0.out)
 rintro e w6 ⟨v167,rfl,ho0,hb⟩
 refine ⟨_,rfl,?_⟩
 have n0_:=Am (Kd.R_lower ho0 (bZ (by repeat (first|(with_reducible first|exact HB.out|apply oA|apply pN|apply o1|refine bS ?_ Bf.out|refine bS ?_ Bh.out)|exact HB.out))))
 have n1_:=Am (bB (g:=Be) (o:=.cells #[.slice A0_0 l0_0.length c0_0,.int .i64 a0_1] 47 (0,0)) (bL Ba.out) hb)
 have n2_:=Am (bB (g:=Bb) (o:=.cells #[.slice none 0 0,.int .i64 0] 47 (0,0)) (bL Bc.out) hb)
 have n3_:=Am (bP (by repeat (first|(with_reducible first|exact HB.out|apply oA|apply pN|apply o1|refine bS ?_ Bf.out|refine bS ?_ Bh.out)|exact HB.out)) hb)
 clear Ba
 clear Bc
 clear HB
 have Bi:=n0_
 have Ba:=n1_
 have Bc:=n2_
 have HB:=n3_
 clear n0_ n1_ n2_ n3_
 (try clear hb)
 (try clear hb2)
 (try clear hk)
 (try clear hi)
 (try clear ho0)
 obtain ⟨Ao7,co7,eo7⟩:=Kd.R_slice Bi.out
 (first|subst eo7|(injection eo7 with f1_ f2_ f3_;have f4_:=f1_.symm;have f5_:=f3_.symm;clear f1_ f2_ f3_;subst f4_;subst f5_))
 refine hK.out _ _ ⟨(bC Ba.out 0).trans rfl,(bC Ba.out 1).trans rfl⟩ (fun hHeld=>?_)
 clear hK K
 refine norm_ (by show Act.put _ (some 5) _=_;simp only [Act.put,lA,lZ,lS,iw,jw];rfl) ?_
 refine pure_ (i:=5) (N:=some 8) (v:=?_) (a':=?_) #[true,true,true,true,true,true,false] rfl rfl (by kernel_rfl) (fun _ _ _ h=>h) (Or.inl ⟨by rfl,?_⟩) ?_ ?_
 rotate_left;(intro w';go_simp;with_reducible rfl)
 rotate_left;(simp only [Act.put,lA,lZ,lS,iw,jw];rfl)
 refine one_ (i:=6) (N:=none) #[true,true,true,true,true,true,true] rfl rfl (by kernel_rfl) (by decide) (fun K hK=>?_)
 have hs8:w6.cell? ⟨Bb,0,none⟩=some (.slice none 0 0):=(bC Bc.out 0).trans rfl
 have hfs8:=bF Bc.out 0
 have hns8_0:=Bd.out
 have hms8_0:=Bg.out
 have hs9:w6.cell? ⟨Bb,1,none⟩=some (.int .i64 0):=(bC Bc.out 1).trans rfl
 have hfs9:=bF Bc.out 1
 have hns9_0:=Bd.out
 have hms9_0:=Bg.out
 refine skip_ (w1:=?_) (by rfl) rfl ?_ ?_
 rotate_left;(go_simp;rfl)
 refine hK.out _ _ ⟨((cell_far (p:=⟨Bb,_,none⟩) Bd.out _).trans (((cell_far (p:=⟨Bb,_,none⟩) Bd.out _).trans (hHeld.1)))),((cell_far (p:=⟨Bb,_,none⟩) Bd.out _).trans (((cell_far (p:=⟨Bb,_,none⟩) Bd.out _).trans (hHeld.2))))⟩ (fun hHeld=>?_)
 clear hK K
 refine done_ (by kernel_rfl) ?_
 try go_wp2
 refine bodyPost_ret (results_cell_row rfl _ _ Bb 47 #[.slice Ao7 t166.length co7,.int .i64 a0_1] (0,0) _ rfl (by (with_reducible repeat (first|refine bN ?_ _|refine bD ?_|refine bA ?_ _));refine blk_put (cs:=#[.slice Ao7 t166.length co7,.int .i64 0]) ?_ 1 _ rfl;(with_reducible repeat (first|refine bN ?_ _|refine bD ?_|refine bA ?_ _));refine blk_put (cs:=#[.slice none 0 0,.int .i64 0]) ?_ 0 _ rfl;(with_reducible repeat (first|refine bN ?_ _|refine bD ?_|refine bA ?_ _));exact Bc.out) Try.underlying47 rfl (by kernel_rfl)) rfl ?_
 exact ⟨_,by first|rfl|(simp [errW_none,errW_some] <;> rfl)|(simp [*,errW_none,errW_some] <;> rfl),by (with_reducible repeat (first|apply rA|apply rN|apply rD));exact rM (rF (p:=⟨Bb,1,none⟩) (rF (p:=⟨Bb,0,none⟩) (rT Bi.out Bc.out (by decide)) (fun _ hk=>hk.2) (.slice Ao7 t166.length co7)) (fun _ hk=>hk.2) (.int .i64 a0_1)) (fun _ hk=>trivial),by repeat (first|(with_reducible first|exact HB.out|apply oA|apply pN|apply o1|refine bS ?_ Bf.out|refine bS ?_ Bh.out)|exact HB.out)⟩

/-! ### impl_QueueSleep: function 32 -/
def impl_QueueSleep.f (k : Nat) (l0_0 : List (S86)) (a0_1 : Int) (a1 : Int) : Option ((List (S86)) × Int × Bool) := (impl_Queue_at.f l0_0 a0_1 a1).bind fun t171 => ((impl_QueueOk.f k l0_0 a0_1).bind fun t172 => (if t172 = true then (if t171 < 0 then (some (([] : List (S86)), 0, false)) else ((impl_Queue_clone.f l0_0 a0_1).bind fun bt173 => (if 0 ≤ t171 then (if t171 < (bt173.1.length : Int) then (some ((bt173.1.set (t171 : Int).toNat (⟨(rd_T86 bt173.1 t171).f0, (rd_T86 bt173.1 t171).f1, (rd_T86 bt173.1 t171).f2, false⟩ : S86)), bt173.2, true)) else (none)) else (none)))) else (some (([] : List (S86)), 0, false))))
theorem impl_QueueSleep.mono : ∀ a0 a1 a2 k, LeO (impl_QueueSleep.f k a0 a1 a2) (impl_QueueSleep.f (k + 1) a0 a1 a2) := by
 intro a0 a1 a2 k
 unfold impl_QueueSleep.f
 repeat' first
  |(with_reducible exact impl_QueueOk.mono _ _ _)
  |(with_reducible exact LeO.refl _)
  |(with_reducible exact LeO.none _)
  |(with_reducible refine LeO.ite ?_ ?_)
  |(with_reducible refine LeO.bind ?_ (fun _ => ?_))
  |exact impl_QueueOk.mono _ _ _
  |exact LeO.none _
  |refine LeO.ite ?_ ?_
  |refine LeO.bind ?_ (fun _ => ?_)
set_option maxHeartbeats 2000000 in
set_option maxRecDepth 100000 in
theorem impl_QueueSleep.calls (k:Nat) (A0_0:Option Addr) (c0_0:Nat) (l0_0:List (S86)) (a0_1:Int) (a1:Int) (r1:List (S86)) (r2:Int) (r3:Bool) (w:World) (hr0_0:Kd.C k86 w A0_0 l0_0.length l0_0) (hc0_0:l0_0.length≤c0_0) (h:impl_QueueSleep.f k l0_0 a0_1 a1=some (r1,r2,r3)) :
  Calls Try.prog 32 #[.agg #[.slice A0_0 l0_0.length c0_0,.int .i64 a0_1],.int .i64 a1] w fun e w'=>∃ v0_:Value,e=.returned (.tuple #[.agg #[v0_,.int .i64 r2],.bool r3])∧Kd.R k86 86 w' w.heap.size (fun _=>True) v0_ r1∧Below w.heap.size w w':=by
 have hu47:=Try.underlying47
 have HR0_0:=Am hr0_0
 have HC0_0:=Am hc0_0
 clear hr0_0 hc0_0
 have HB:=Am (Below.refl w.heap.size w)
 have H:((impl_Queue_at.f l0_0 a0_1 a1).bind fun t171=>((impl_QueueOk.f k l0_0 a0_1).bind fun t172=>(if t172=true then (if t171<0 then (some (([]:List (S86)),0,false)) else ((impl_Queue_clone.f l0_0 a0_1).bind fun bt173=>(if 0≤t171 then (if t171<(bt173.1.length:Int) then (some ((bt173.1.set (t171:Int).toNat (⟨(rd_T86 bt173.1 t171).f0,(rd_T86 bt173.1 t171).f1,(rd_T86 bt173.1 t171).f2,false⟩:S86)),bt173.2,true)) else (none)) else (none)))) else (some (([]:List (S86)),0,false)))))=some (r1,r2,r3):=h
 clear h
 replace H:=oC H
 obtain ⟨t171,A30,H⟩:=H
 replace H:((impl_QueueOk.f k l0_0 a0_1).bind fun t172=>(if t172=true then (if t171<0 then (some (([]:List (S86)),0,false)) else ((impl_Queue_clone.f l0_0 a0_1).bind fun bt173=>(if 0≤t171 then (if t171<(bt173.1.length:Int) then (some ((bt173.1.set (t171:Int).toNat (⟨(rd_T86 bt173.1 t171).f0,(rd_T86 bt173.1 t171).f1,(rd_T86 bt173.1 t171).f2,false⟩:S86)),bt173.2,true)) else (none)) else (none)))) else (some (([]:List (S86)),0,false))))=some (r1,r2,r3):=H
 have A3:=Am A30
 clear A30
 replace H:=oC H
 obtain ⟨t172,A40,H⟩:=H
 replace H:(if t172=true then (if t171<0 then (some (([]:List (S86)),0,false)) else ((impl_Queue_clone.f l0_0 a0_1).bind fun bt173=>(if 0≤t171 then (if t171<(bt173.1.length:Int) then (some ((bt173.1.set (t171:Int).toNat (⟨(rd_T86 bt173.1 t171).f0,(rd_T86 bt173.1 t171).f1,(rd_T86 bt173.1 t171).f2,false⟩:S86)),bt173.2,true)) else (none)) else (none)))) else (some (([]:List (S86)),0,false)))=some (r1,r2,r3):=H
 have A4:=Am A40
 clear A40
 by_cases c5:t172=true
 rotate_left
 ·replace c5:=Bool.eq_false_iff.mpr c5
  subst c5
  have H1:(some (([]:List (S86)),0,false))=some (r1,r2,r3):=by rw [if_neg (show ¬ (false=true) by decide)] at H;exact H
  clear H
  have H:=H1
  clear H1
  simp only [Option.some.injEq,Prod.mk.injEq] at H
  obtain ⟨rfl,rfl,rfl⟩:=H
  go_enter Try.func32,Try.ntmps32
  go_wp2_with (first|((with_reducible refine gate_dst (N:=2) rfl ?_);refine box_event ?hg (N:=2) ?hd (cs:=#[.slice A0_0 l0_0.length c0_0,.int .i64 a0_1]) (t:=47) ?hr ?_;(case hd=>rfl);(case hg=>rfl);(case hr=>first|(go_simp;done)|(go_simp;rfl));intro Bb hg w39 hbox hb;have n0_:=Am (bP (by repeat (first|(with_reducible first|exact HB.out|apply oA|apply pN|apply o1)|exact HB.out)) hb);have n1_:=Am (hbox);have n2_:=Am ((by rw [hg];exact (bZ (by repeat (first|(with_reducible first|exact HB.out|apply oA|apply pN|apply o1)|exact HB.out))):w.heap.size≤Bb));have n3_:=Am ((by rw [hg];exact (bZ (by repeat (first|(with_reducible first|exact HB.out|apply oA|apply pN|apply o1)|exact HB.out))):w.heap.size≤Bb));clear HB;revert n0_ n1_ n2_ n3_;intro HB Ba Bp Be;clear hb hbox hg)|((with_reducible refine gate_dst (N:=4) rfl ?_);refine box_event ?hg (N:=4) ?hd (cs:=#[.slice none 0 0,.int .i64 0]) (t:=47) ?hr ?_;(case hd=>rfl);(case hg=>rfl);(case hr=>first|(go_simp;done)|(go_simp;rfl));intro Bd hg w40 hbox hb;have n0_:=Am (bB (g:=Bb) (o:=.cells #[.slice A0_0 l0_0.length c0_0,.int .i64 a0_1] 47 (0,0)) (bL Ba.out) hb);have n1_:=Am (bP (by repeat (first|(with_reducible first|exact HB.out|apply oA|apply pN|apply o1|refine bS ?_ Be.out)|exact HB.out)) hb);have n2_:=Am (hbox);have n3_:=Am ((by rw [hg];exact (bZ (by repeat (first|(with_reducible first|exact HB.out|apply oA|apply pN|apply o1|refine bS ?_ Be.out)|exact HB.out))):w.heap.size≤Bd));have n4_:=Am ((by rw [hg];exact (bZ (by repeat (first|(with_reducible first|exact HB.out|apply oA|apply pN|apply o1|refine bS ?_ Be.out)|exact HB.out))):w.heap.size≤Bd));have n5_:=Am ((by rw [hg];exact Nat.ne_of_lt (blk_lt (g:=Bb) (o:=.cells #[.slice A0_0 l0_0.length c0_0,.int .i64 a0_1] 47 (0,0)) (bL Ba.out)):Bb≠Bd));have n6_:=Am ((by rw [hg];exact Nat.ne_of_gt (blk_lt (g:=Bb) (o:=.cells #[.slice A0_0 l0_0.length c0_0,.int .i64 a0_1] 47 (0,0)) (bL Ba.out)):Bd≠Bb));clear Ba HB;revert n0_ n1_ n2_ n3_ n4_ n5_ n6_;intro Ba HB Bc Bq Bi Bj Bk;clear hb hbox hg;have Dq:=Bj.out;have Dr:=Bk.out;have B7:w40.cell? ⟨Bb,0,none⟩=some (.slice A0_0 l0_0.length c0_0):=(bC Ba.out 0).trans rfl;have B8:w40.cell? ⟨Bb,1,none⟩=some (.int .i64 a0_1):=(bC Ba.out 1).trans rfl;have B9:=bF Ba.out 0;have Da:=bF Ba.out 1)|((with_reducible refine gate_callee (f:=73) rfl ?_);refine goesL_ (some 10) rfl rfl Try.func73 (by kernel_rfl) rfl #[.agg #[.slice A0_0 l0_0.length c0_0,.int .i64 a0_1],.int .i64 a1] rfl (by (try simp only [lM,lC,lN]);first|done|rfl|(simp only [lD,lT];rfl)) ?_;(with_reducible refine (impl_Queue_at.calls _ _ l0_0 a0_1 a1 t171 _ ?side1 ?side2 A3.out).mono ?_);(case side1=>repeat (first|exact (cB HR0_0.out HB.out)|(with_reducible refine cA ?_ _)|(with_reducible refine cN ?_ _)|(with_reducible refine cD ?_)));(case side2=>exact HC0_0.out);rintro e w43 ⟨rfl,hb⟩;refine ⟨_,rfl,?_⟩;have n0_:=Am (bB (g:=Bb) (o:=.cells #[.slice A0_0 l0_0.length c0_0,.int .i64 a0_1] 47 (0,0)) (bL Ba.out) hb);have n1_:=Am (bB (g:=Bd) (o:=.cells #[.slice none 0 0,.int .i64 0] 47 (0,0)) (bL Bc.out) hb);have n2_:=Am (bP (by repeat (first|(with_reducible first|exact HB.out|apply oA|apply pN|apply o1|refine bS ?_ Be.out|refine bS ?_ Bi.out)|exact HB.out)) hb);clear Ba Bc HB;revert n0_ n1_ n2_;intro Ba Bc HB;(try clear hb);(try clear hb2);(try clear hk);(try clear hi);have Db:w43.cell? ⟨Bb,0,none⟩=some (.slice A0_0 l0_0.length c0_0):=(bC Ba.out 0).trans rfl;have Dc:w43.cell? ⟨Bb,1,none⟩=some (.int .i64 a0_1):=(bC Ba.out 1).trans rfl;have Dd:=bF Ba.out 0;have De:=bF Ba.out 1)|((with_reducible refine gate_callee (f:=74) rfl ?_);refine goesL_ (some 12) rfl rfl Try.func74 (by kernel_rfl) rfl #[.agg #[.slice A0_0 l0_0.length c0_0,.int .i64 a0_1]] rfl (by (try simp only [lM,lC,lN]);first|done|rfl|(simp only [lD,lT];rfl)) ?_;(with_reducible refine (impl_QueueOk.calls k _ _ l0_0 a0_1 false _ ?side1 ?side2 A4.out).mono ?_);(case side1=>repeat (first|exact (cB HR0_0.out HB.out)|(with_reducible refine cA ?_ _)|(with_reducible refine cN ?_ _)|(with_reducible refine cD ?_)));(case side2=>exact HC0_0.out);rintro e w45 ⟨rfl,hb⟩;refine ⟨_,rfl,?_⟩;have n0_:=Am (bB (g:=Bb) (o:=.cells #[.slice A0_0 l0_0.length c0_0,.int .i64 a0_1] 47 (0,0)) (bL Ba.out) hb);have n1_:=Am (bB (g:=Bd) (o:=.cells #[.slice none 0 0,.int .i64 0] 47 (0,0)) (bL Bc.out) hb);have n2_:=Am (bP (by repeat (first|(with_reducible first|exact HB.out|apply oA|apply pN|apply o1|refine bS ?_ Be.out|refine bS ?_ Bi.out)|exact HB.out)) hb);clear Ba Bc HB;revert n0_ n1_ n2_;intro Ba Bc HB;(try clear hb);(try clear hb2);(try clear hk);(try clear hi);have Df:w45.cell? ⟨Bd,0,none⟩=some (.slice none 0 0):=(bC Bc.out 0).trans rfl;have Dg:w45.cell? ⟨Bd,1,none⟩=some (.int .i64 0):=(bC Bc.out 1).trans rfl;have Dh:=bF Bc.out 0;have Di:=bF Bc.out 1))
  refine bodyPost_ret (results_ct rfl _ _ Bd 47 #[.slice none 0 0,.int .i64 0] (0,0) _ rfl (by (with_reducible repeat (first|refine bN ?_ _|refine bD ?_|refine bA ?_ _));refine blk_put (cs:=#[.slice none 0 0,.int .i64 0]) ?_ 1 _ rfl;(with_reducible repeat (first|refine bN ?_ _|refine bD ?_|refine bA ?_ _));refine blk_put (cs:=#[.slice none 0 0,.int .i64 0]) ?_ 0 _ rfl;(with_reducible repeat (first|refine bN ?_ _|refine bD ?_|refine bA ?_ _));exact Bc.out) Try.underlying47 rfl (by kernel_rfl)) rfl ?_
  exact ⟨_,by first|rfl|(simp [errW_none,errW_some] <;> rfl)|(simp [*,errW_none,errW_some] <;> rfl),by first|exact Kd.R_nil _ _ _ _ _|exact Kd.N_nil _ _ _ _ _|exact Kd.V_nil _ _ _ _ _|exact Kd.Q_nil _ _ _ _ _|exact Kd.S_nil _ _ _ _ _,by repeat (first|(with_reducible first|exact HB.out|apply oA|apply pN|apply o1|refine bS ?_ Be.out|refine bS ?_ Bi.out)|exact HB.out)⟩


 subst c5
 have H1:(if t171<0 then (some (([]:List (S86)),0,false)) else ((impl_Queue_clone.f l0_0 a0_1).bind fun bt173=>(if 0≤t171 then (if t171<(bt173.1.length:Int) then (some ((bt173.1.set (t171:Int).toNat (⟨(rd_T86 bt173.1 t171).f0,(rd_T86 bt173.1 t171).f1,(rd_T86 bt173.1 t171).f2,false⟩:S86)),bt173.2,true)) else (none)) else (none))))=some (r1,r2,r3):=by rw [if_pos rfl] at H;exact H
 clear H
 have H:=H1
 clear H1
 by_cases c6:t171<0
 ·rw [if_pos c6] at H
  have c6b0:decide (t171<0)=true:=decide_eq_true c6
  clear c6
  simp only [Option.some.injEq,Prod.mk.injEq] at H
  obtain ⟨rfl,rfl,rfl⟩:=H
  go_enter Try.func32,Try.ntmps32
  go_wp2_with (first|((with_reducible refine gate_dst (N:=2) rfl ?_);refine box_event ?hg (N:=2) ?hd (cs:=#[.slice A0_0 l0_0.length c0_0,.int .i64 a0_1]) (t:=47) ?hr ?_;(case hd=>rfl);(case hg=>rfl);(case hr=>first|(go_simp;done)|(go_simp;rfl));intro Bb hg w7 hbox hb;have n0_:=Am (bP (by repeat (first|(with_reducible first|exact HB.out|apply oA|apply pN|apply o1)|exact HB.out)) hb);have n1_:=Am (hbox);have n2_:=Am ((by rw [hg];exact (bZ (by repeat (first|(with_reducible first|exact HB.out|apply oA|apply pN|apply o1)|exact HB.out))):w.heap.size≤Bb));have n3_:=Am ((by rw [hg];exact (bZ (by repeat (first|(with_reducible first|exact HB.out|apply oA|apply pN|apply o1)|exact HB.out))):w.heap.size≤Bb));clear HB;revert n0_ n1_ n2_ n3_;intro HB Ba Bp Be;clear hb hbox hg)|((with_reducible refine gate_dst (N:=4) rfl ?_);refine box_event ?hg (N:=4) ?hd (cs:=#[.slice none 0 0,.int .i64 0]) (t:=47) ?hr ?_;(case hd=>rfl);(case hg=>rfl);(case hr=>first|(go_simp;done)|(go_simp;rfl));intro Bd hg w8 hbox hb;have n0_:=Am (bB (g:=Bb) (o:=.cells #[.slice A0_0 l0_0.length c0_0,.int .i64 a0_1] 47 (0,0)) (bL Ba.out) hb);have n1_:=Am (bP (by repeat (first|(with_reducible first|exact HB.out|apply oA|apply pN|apply o1|refine bS ?_ Be.out)|exact HB.out)) hb);have n2_:=Am (hbox);have n3_:=Am ((by rw [hg];exact (bZ (by repeat (first|(with_reducible first|exact HB.out|apply oA|apply pN|apply o1|refine bS ?_ Be.out)|exact HB.out))):w.heap.size≤Bd));have n4_:=Am ((by rw [hg];exact (bZ (by repeat (first|(with_reducible first|exact HB.out|apply oA|apply pN|apply o1|refine bS ?_ Be.out)|exact HB.out))):w.heap.size≤Bd));have n5_:=Am ((by rw [hg];exact Nat.ne_of_lt (blk_lt (g:=Bb) (o:=.cells #[.slice A0_0 l0_0.length c0_0,.int .i64 a0_1] 47 (0,0)) (bL Ba.out)):Bb≠Bd));have n6_:=Am ((by rw [hg];exact Nat.ne_of_gt (blk_lt (g:=Bb) (o:=.cells #[.slice A0_0 l0_0.length c0_0,.int .i64 a0_1] 47 (0,0)) (bL Ba.out)):Bd≠Bb));clear Ba HB;revert n0_ n1_ n2_ n3_ n4_ n5_ n6_;intro Ba HB Bc Bq Bi Bj Bk;clear hb hbox hg;have Ds:=Bj.out;have Dt:=Bk.out;have Bt:w8.cell? ⟨Bb,0,none⟩=some (.slice A0_0 l0_0.length c0_0):=(bC Ba.out 0).trans rfl;have Bu:w8.cell? ⟨Bb,1,none⟩=some (.int .i64 a0_1):=(bC Ba.out 1).trans rfl;have Bv:=bF Ba.out 0;have Bw:=bF Ba.out 1)|((with_reducible refine gate_callee (f:=73) rfl ?_);refine goesL_ (some 10) rfl rfl Try.func73 (by kernel_rfl) rfl #[.agg #[.slice A0_0 l0_0.length c0_0,.int .i64 a0_1],.int .i64 a1] rfl (by (try simp only [lM,lC,lN]);first|done|rfl|(simp only [lD,lT];rfl)) ?_;(with_reducible refine (impl_Queue_at.calls _ _ l0_0 a0_1 a1 t171 _ ?side1 ?side2 A3.out).mono ?_);(case side1=>repeat (first|exact (cB HR0_0.out HB.out)|(with_reducible refine cA ?_ _)|(with_reducible refine cN ?_ _)|(with_reducible refine cD ?_)));(case side2=>exact HC0_0.out);rintro e w11 ⟨rfl,hb⟩;refine ⟨_,rfl,?_⟩;have n0_:=Am (bB (g:=Bb) (o:=.cells #[.slice A0_0 l0_0.length c0_0,.int .i64 a0_1] 47 (0,0)) (bL Ba.out) hb);have n1_:=Am (bB (g:=Bd) (o:=.cells #[.slice none 0 0,.int .i64 0] 47 (0,0)) (bL Bc.out) hb);have n2_:=Am (bP (by repeat (first|(with_reducible first|exact HB.out|apply oA|apply pN|apply o1|refine bS ?_ Be.out|refine bS ?_ Bi.out)|exact HB.out)) hb);clear Ba Bc HB;revert n0_ n1_ n2_;intro Ba Bc HB;(try clear hb);(try clear hb2);(try clear hk);(try clear hi);have Bx:w11.cell? ⟨Bb,0,none⟩=some (.slice A0_0 l0_0.length c0_0):=(bC Ba.out 0).trans rfl;have By:w11.cell? ⟨Bb,1,none⟩=some (.int .i64 a0_1):=(bC Ba.out 1).trans rfl;have Bz:=bF Ba.out 0;have BA:=bF Ba.out 1)|((with_reducible refine gate_callee (f:=74) rfl ?_);refine goesL_ (some 12) rfl rfl Try.func74 (by kernel_rfl) rfl #[.agg #[.slice A0_0 l0_0.length c0_0,.int .i64 a0_1]] rfl (by (try simp only [lM,lC,lN]);first|done|rfl|(simp only [lD,lT];rfl)) ?_;(with_reducible refine (impl_QueueOk.calls k _ _ l0_0 a0_1 true _ ?side1 ?side2 A4.out).mono ?_);(case side1=>repeat (first|exact (cB HR0_0.out HB.out)|(with_reducible refine cA ?_ _)|(with_reducible refine cN ?_ _)|(with_reducible refine cD ?_)));(case side2=>exact HC0_0.out);rintro e w13 ⟨rfl,hb⟩;refine ⟨_,rfl,?_⟩;have n0_:=Am (bB (g:=Bb) (o:=.cells #[.slice A0_0 l0_0.length c0_0,.int .i64 a0_1] 47 (0,0)) (bL Ba.out) hb);have n1_:=Am (bB (g:=Bd) (o:=.cells #[.slice none 0 0,.int .i64 0] 47 (0,0)) (bL Bc.out) hb);have n2_:=Am (bP (by repeat (first|(with_reducible first|exact HB.out|apply oA|apply pN|apply o1|refine bS ?_ Be.out|refine bS ?_ Bi.out)|exact HB.out)) hb);clear Ba Bc HB;revert n0_ n1_ n2_;intro Ba Bc HB;(try clear hb);(try clear hb2);(try clear hk);(try clear hi);have BB:w13.cell? ⟨Bd,0,none⟩=some (.slice none 0 0):=(bC Bc.out 0).trans rfl;have BC:w13.cell? ⟨Bd,1,none⟩=some (.int .i64 0):=(bC Bc.out 1).trans rfl;have BD:=bF Bc.out 0;have BE:=bF Bc.out 1))
  refine bodyPost_ret (results_ct rfl _ _ Bd 47 #[.slice none 0 0,.int .i64 0] (0,0) _ rfl (by (with_reducible repeat (first|refine bN ?_ _|refine bD ?_|refine bA ?_ _));refine blk_put (cs:=#[.slice none 0 0,.int .i64 0]) ?_ 1 _ rfl;(with_reducible repeat (first|refine bN ?_ _|refine bD ?_|refine bA ?_ _));refine blk_put (cs:=#[.slice none 0 0,.int .i64 0]) ?_ 0 _ rfl;(with_reducible repeat (first|refine bN ?_ _|refine bD ?_|refine bA ?_ _));exact Bc.out) Try.underlying47 rfl (by kernel_rfl)) rfl ?_
  exact ⟨_,by first|rfl|(simp [errW_none,errW_some] <;> rfl)|(simp [*,errW_none,errW_some] <;> rfl),by first|exact Kd.R_nil _ _ _ _ _|exact Kd.N_nil _ _ _ _ _|exact Kd.V_nil _ _ _ _ _|exact Kd.Q_nil _ _ _ _ _|exact Kd.S_nil _ _ _ _ _,by repeat (first|(with_reducible first|exact HB.out|apply oA|apply pN|apply o1|refine bS ?_ Be.out|refine bS ?_ Bi.out)|exact HB.out)⟩
 rw [if_neg c6] at H
 have c6b0:decide (t171<0)=false:=decide_eq_false c6
 clear c6
 replace H:=oC H
 obtain ⟨⟨t173,t176⟩,A150,H⟩:=H
 replace H:(if 0≤t171 then (if t171<(t173.length:Int) then (some ((t173.set (t171:Int).toNat (⟨(rd_T86 t173 t171).f0,(rd_T86 t173 t171).f1,(rd_T86 t173 t171).f2,false⟩:S86)),t176,true)) else (none)) else (none))=some (r1,r2,r3):=H
 have A15:=Am A150
 clear A150
 by_cases c16:0≤t171
 rotate_left
 ·rw [if_neg c16] at H
  exact absurd H (by simp)
 rw [if_pos c16] at H
 have c16b0:decide (0≤t171)=true:=decide_eq_true c16
 clear c16
 by_cases c17:t171<(t173.length:Int)
 rotate_left
 ·rw [if_neg c17] at H
  exact absurd H (by simp)
 rw [if_pos c17] at H
 have c17b0:decide (t171<(t173.length:Int))=true:=decide_eq_true c17
 clear c17
 obtain ⟨y178,hy178⟩:∃ y_:List (S86),y_=(t173.set (t171:Int).toNat (⟨(rd_T86 t173 t171).f0,(rd_T86 t173 t171).f1,(rd_T86 t173 t171).f2,false⟩:S86)):=⟨_,rfl⟩
 replace H:(some (y178,t176,true))=some (r1,r2,r3):=by first|(rw [hy178];with_reducible exact H)|(have H2_:=(Option.bind_some _ _).symm.trans H;rw [hy178];with_reducible exact H2_)|(have H2_:=(Option.bind_some _ _).symm.trans H;with_reducible exact H2_)|with_reducible exact H|(rw [hy178];exact H)|exact H
 have Ny178:=Am hy178
 clear hy178
 simp only [Option.some.injEq,Prod.mk.injEq] at H
 obtain ⟨rfl,rfl,rfl⟩:=H
 go_enter Try.func32,Try.ntmps32
 go_wp2_with (first|((with_reducible refine gate_dst (N:=2) rfl ?_);refine box_event ?hg (N:=2) ?hd (cs:=#[.slice A0_0 l0_0.length c0_0,.int .i64 a0_1]) (t:=47) ?hr ?_;(case hd=>rfl);(case hg=>rfl);(case hr=>first|(go_simp;done)|(go_simp;rfl));intro Bb hg w19 hbox hb;have n0_:=Am (bP (by repeat (first|(with_reducible first|exact HB.out|apply oA|apply pN|apply o1)|exact HB.out)) hb);have n1_:=Am (hbox);have n2_:=Am ((by rw [hg];exact (bZ (by repeat (first|(with_reducible first|exact HB.out|apply oA|apply pN|apply o1)|exact HB.out))):w.heap.size≤Bb));have n3_:=Am ((by rw [hg];exact (bZ (by repeat (first|(with_reducible first|exact HB.out|apply oA|apply pN|apply o1)|exact HB.out))):w.heap.size≤Bb));clear HB;revert n0_ n1_ n2_ n3_;intro HB Ba Bp Be;clear hb hbox hg)|((with_reducible refine gate_dst (N:=4) rfl ?_);refine box_event ?hg (N:=4) ?hd (cs:=#[.slice none 0 0,.int .i64 0]) (t:=47) ?hr ?_;(case hd=>rfl);(case hg=>rfl);(case hr=>first|(go_simp;done)|(go_simp;rfl));intro Bd hg w20 hbox hb;have n0_:=Am (bB (g:=Bb) (o:=.cells #[.slice A0_0 l0_0.length c0_0,.int .i64 a0_1] 47 (0,0)) (bL Ba.out) hb);have n1_:=Am (bP (by repeat (first|(with_reducible first|exact HB.out|apply oA|apply pN|apply o1|refine bS ?_ Be.out)|exact HB.out)) hb);have n2_:=Am (hbox);have n3_:=Am ((by rw [hg];exact (bZ (by repeat (first|(with_reducible first|exact HB.out|apply oA|apply pN|apply o1|refine bS ?_ Be.out)|exact HB.out))):w.heap.size≤Bd));have n4_:=Am ((by rw [hg];exact (bZ (by repeat (first|(with_reducible first|exact HB.out|apply oA|apply pN|apply o1|refine bS ?_ Be.out)|exact HB.out))):w.heap.size≤Bd));have n5_:=Am ((by rw [hg];exact Nat.ne_of_lt (blk_lt (g:=Bb) (o:=.cells #[.slice A0_0 l0_0.length c0_0,.int .i64 a0_1] 47 (0,0)) (bL Ba.out)):Bb≠Bd));have n6_:=Am ((by rw [hg];exact Nat.ne_of_gt (blk_lt (g:=Bb) (o:=.cells #[.slice A0_0 l0_0.length c0_0,.int .i64 a0_1] 47 (0,0)) (bL Ba.out)):Bd≠Bb));clear Ba HB;revert n0_ n1_ n2_ n3_ n4_ n5_ n6_;intro Ba HB Bc Bq Bi Bj Bk;clear hb hbox hg;have Dj:=Bj.out;have Dk:=Bk.out;have BF:w20.cell? ⟨Bb,0,none⟩=some (.slice A0_0 l0_0.length c0_0):=(bC Ba.out 0).trans rfl;have BG:w20.cell? ⟨Bb,1,none⟩=some (.int .i64 a0_1):=(bC Ba.out 1).trans rfl;have BH:=bF Ba.out 0;have BI:=bF Ba.out 1)|((with_reducible refine gate_callee (f:=73) rfl ?_);refine goesL_ (some 10) rfl rfl Try.func73 (by kernel_rfl) rfl #[.agg #[.slice A0_0 l0_0.length c0_0,.int .i64 a0_1],.int .i64 a1] rfl (by (try simp only [lM,lC,lN]);first|done|rfl|(simp only [lD,lT];rfl)) ?_;(with_reducible refine (impl_Queue_at.calls _ _ l0_0 a0_1 a1 t171 _ ?side1 ?side2 A3.out).mono ?_);(case side1=>repeat (first|exact (cB HR0_0.out HB.out)|(with_reducible refine cA ?_ _)|(with_reducible refine cN ?_ _)|(with_reducible refine cD ?_)));(case side2=>exact HC0_0.out);rintro e w23 ⟨rfl,hb⟩;refine ⟨_,rfl,?_⟩;have n0_:=Am (bB (g:=Bb) (o:=.cells #[.slice A0_0 l0_0.length c0_0,.int .i64 a0_1] 47 (0,0)) (bL Ba.out) hb);have n1_:=Am (bB (g:=Bd) (o:=.cells #[.slice none 0 0,.int .i64 0] 47 (0,0)) (bL Bc.out) hb);have n2_:=Am (bP (by repeat (first|(with_reducible first|exact HB.out|apply oA|apply pN|apply o1|refine bS ?_ Be.out|refine bS ?_ Bi.out)|exact HB.out)) hb);clear Ba Bc HB;revert n0_ n1_ n2_;intro Ba Bc HB;(try clear hb);(try clear hb2);(try clear hk);(try clear hi);have BJ:w23.cell? ⟨Bb,0,none⟩=some (.slice A0_0 l0_0.length c0_0):=(bC Ba.out 0).trans rfl;have BK:w23.cell? ⟨Bb,1,none⟩=some (.int .i64 a0_1):=(bC Ba.out 1).trans rfl;have BL:=bF Ba.out 0;have BM:=bF Ba.out 1)|((with_reducible refine gate_callee (f:=74) rfl ?_);refine goesL_ (some 12) rfl rfl Try.func74 (by kernel_rfl) rfl #[.agg #[.slice A0_0 l0_0.length c0_0,.int .i64 a0_1]] rfl (by (try simp only [lM,lC,lN]);first|done|rfl|(simp only [lD,lT];rfl)) ?_;(with_reducible refine (impl_QueueOk.calls k _ _ l0_0 a0_1 true _ ?side1 ?side2 A4.out).mono ?_);(case side1=>repeat (first|exact (cB HR0_0.out HB.out)|(with_reducible refine cA ?_ _)|(with_reducible refine cN ?_ _)|(with_reducible refine cD ?_)));(case side2=>exact HC0_0.out);rintro e w25 ⟨rfl,hb⟩;refine ⟨_,rfl,?_⟩;have n0_:=Am (bB (g:=Bb) (o:=.cells #[.slice A0_0 l0_0.length c0_0,.int .i64 a0_1] 47 (0,0)) (bL Ba.out) hb);have n1_:=Am (bB (g:=Bd) (o:=.cells #[.slice none 0 0,.int .i64 0] 47 (0,0)) (bL Bc.out) hb);have n2_:=Am (bP (by repeat (first|(with_reducible first|exact HB.out|apply oA|apply pN|apply o1|refine bS ?_ Be.out|refine bS ?_ Bi.out)|exact HB.out)) hb);clear Ba Bc HB;revert n0_ n1_ n2_;intro Ba Bc HB;(try clear hb);(try clear hb2);(try clear hk);(try clear hi);have BN:w25.cell? ⟨Bb,0,none⟩=some (.slice A0_0 l0_0.length c0_0):=(bC Ba.out 0).trans rfl;have BO:w25.cell? ⟨Bb,1,none⟩=some (.int .i64 a0_1):=(bC Ba.out 1).trans rfl;have BP:=bF Ba.out 0;have BQ:=bF Ba.out 1)|((with_reducible refine gate_callee (f:=75) rfl ?_);refine goesL_ (some 20) rfl rfl Try.func75 (by kernel_rfl) rfl #[.agg #[.slice A0_0 l0_0.length c0_0,.int .i64 a0_1]] rfl (by (try simp only [lM,lC,lN]);first|done|rfl|(simp only [lD,lT];rfl)) ?_;(with_reducible refine (impl_Queue_clone.calls _ _ l0_0 a0_1 t173 t176 _ ?side1 ?side2 A15.out).mono ?_);(case side1=>repeat (first|exact (cB HR0_0.out HB.out)|(with_reducible refine cA ?_ _)|(with_reducible refine cN ?_ _)|(with_reducible refine cD ?_)));(case side2=>exact HC0_0.out);rintro e w27 ⟨v174,rfl,ho0,hb⟩;refine ⟨_,rfl,?_⟩;have n0_:=Am (Kd.R_lower ho0 (bZ (by repeat (first|(with_reducible first|exact HB.out|apply oA|apply pN|apply o1|refine bS ?_ Be.out|refine bS ?_ Bi.out)|exact HB.out))));have n1_:=Am (bB (g:=Bb) (o:=.cells #[.slice A0_0 l0_0.length c0_0,.int .i64 a0_1] 47 (0,0)) (bL Ba.out) hb);have n2_:=Am (bB (g:=Bd) (o:=.cells #[.slice none 0 0,.int .i64 0] 47 (0,0)) (bL Bc.out) hb);have n3_:=Am (bP (by repeat (first|(with_reducible first|exact HB.out|apply oA|apply pN|apply o1|refine bS ?_ Be.out|refine bS ?_ Bi.out)|exact HB.out)) hb);clear Ba Bc HB;revert n0_ n1_ n2_ n3_;intro Bg Ba Bc HB;(try clear hb);(try clear hb2);(try clear hk);(try clear hi);(try clear ho0))|((with_reducible refine gate_dst (N:=7) rfl ?_);refine box_event ?hg (N:=7) ?hd (cs:=#[.slice none 0 0,.int .i64 0]) (t:=47) ?hr ?_;(case hd=>rfl);(case hg=>rfl);(case hr=>first|(go_simp;done)|(go_simp;rfl));intro Bh hg w28 hbox hb;have n0_:=Am (rB (rL Bg.out) hb);have n1_:=Am (bB (g:=Bb) (o:=.cells #[.slice A0_0 l0_0.length c0_0,.int .i64 a0_1] 47 (0,0)) (bL Ba.out) hb);have n2_:=Am (bB (g:=Bd) (o:=.cells #[.slice none 0 0,.int .i64 0] 47 (0,0)) (bL Bc.out) hb);have n3_:=Am (bP (by repeat (first|(with_reducible first|exact HB.out|apply oA|apply pN|apply o1|refine bS ?_ Be.out|refine bS ?_ Bi.out)|exact HB.out)) hb);have n4_:=Am (hbox);have n5_:=Am ((by rw [hg];exact (bZ (by repeat (first|(with_reducible first|exact HB.out|apply oA|apply pN|apply o1|refine bS ?_ Be.out|refine bS ?_ Bi.out)|exact HB.out))):w.heap.size≤Bh));have n6_:=Am ((by rw [hg];exact (bZ (by repeat (first|(with_reducible first|exact HB.out|apply oA|apply pN|apply o1|refine bS ?_ Be.out|refine bS ?_ Bi.out)|exact HB.out))):w.heap.size≤Bh));have n7_:=Am ((by rw [hg];exact Nat.ne_of_lt (blk_lt (g:=Bb) (o:=.cells #[.slice A0_0 l0_0.length c0_0,.int .i64 a0_1] 47 (0,0)) (bL Ba.out)):Bb≠Bh));have n8_:=Am ((by rw [hg];exact Nat.ne_of_gt (blk_lt (g:=Bb) (o:=.cells #[.slice A0_0 l0_0.length c0_0,.int .i64 a0_1] 47 (0,0)) (bL Ba.out)):Bh≠Bb));have n9_:=Am ((by rw [hg];exact Nat.ne_of_lt (blk_lt (g:=Bd) (o:=.cells #[.slice none 0 0,.int .i64 0] 47 (0,0)) (bL Bc.out)):Bd≠Bh));have n10_:=Am ((by rw [hg];exact Nat.ne_of_gt (blk_lt (g:=Bd) (o:=.cells #[.slice none 0 0,.int .i64 0] 47 (0,0)) (bL Bc.out)):Bh≠Bd));clear Bg Ba Bc HB;revert n0_ n1_ n2_ n3_ n4_ n5_ n6_ n7_ n8_ n9_ n10_;intro Bg Ba Bc HB Bf Dl Br Bl Bn Bm Bo;clear hb hbox hg;obtain ⟨Ao29,co29,eo29⟩:=Kd.R_slice Bg.out;subst eo29;have Dm:=Bn.out;have Dn:=Bl.out;have Do:=Bo.out;have Dp:=Bm.out;have BR:w28.cell? ⟨Bh,0,none⟩=some (.slice none 0 0):=(bC Bf.out 0).trans rfl;have BS:w28.cell? ⟨Bh,1,none⟩=some (.int .i64 0):=(bC Bf.out 1).trans rfl;have BT:=bF Bf.out 0;have BU:=bF Bf.out 1)|((with_reducible refine gate_store (t:=47) (p:=7) rfl ?_);refine store_event (t:=47) (p:=7) (v:=?vo_w33) (w1:=((w28.setCell ⟨Bh,0,none⟩ (.slice Ao29 t173.length co29)).setCell ⟨Bh,1,none⟩ (.int .i64 t176))) ?hg ?ho ?hn ?hr ?_;(case ho=>rfl);(case hg=>rfl);(case hn=>rfl);(case hr=>first|(go_simp;done)|(go_simp;rfl));intro w33 hw;have n0_:Aside0 (Kd.R k86 86 w33 w.heap.size (fun _=>True) (.slice Ao29 t173.length co29) t173):=⟨(by rw [hw];exact (by (with_reducible repeat (first|apply rA|apply rN|apply rD));exact rM (rF (p:=⟨Bh,1,none⟩) (rF (p:=⟨Bh,0,none⟩) (rT Bg.out Bf.out (by decide)) (fun _ hk=>hk.2) (.slice Ao29 t173.length co29)) (fun _ hk=>hk.2) (.int .i64 t176)) (fun _ hk=>trivial)))⟩;have n1_:Aside0 (w33.heap[Bb]?=some (.cells #[.slice A0_0 l0_0.length c0_0,.int .i64 a0_1] 47 (0,0))):=⟨(by rw [hw];exact (by (with_reducible repeat (first|refine bN ?_ _|refine bD ?_|refine bA ?_ _|refine blk_far ?_ Bl.out _));exact Ba.out))⟩;have n2_:Aside0 (w33.heap[Bd]?=some (.cells #[.slice none 0 0,.int .i64 0] 47 (0,0))):=⟨(by rw [hw];exact (by (with_reducible repeat (first|refine bN ?_ _|refine bD ?_|refine bA ?_ _|refine blk_far ?_ Bm.out _));exact Bc.out))⟩;have n3_:Aside0 (w33.heap[Bh]?=some (.cells #[.slice Ao29 t173.length co29,.int .i64 t176] 47 (0,0))):=⟨(by rw [hw];exact (by (with_reducible repeat (first|refine bN ?_ _|refine bD ?_|refine bA ?_ _));refine blk_put (cs:=#[.slice Ao29 t173.length co29,.int .i64 0]) ?_ 1 _ rfl;(with_reducible repeat (first|refine bN ?_ _|refine bD ?_|refine bA ?_ _));refine blk_put (cs:=#[.slice none 0 0,.int .i64 0]) ?_ 0 _ rfl;(with_reducible repeat (first|refine bN ?_ _|refine bD ?_|refine bA ?_ _));exact Bf.out))⟩;have n4_:Aside0 (Below w.heap.size w w33):=⟨(by rw [hw];exact (by repeat (first|(with_reducible first|exact HB.out|apply oA|apply pN|apply o1|refine bS ?_ Be.out|refine bS ?_ Bi.out|refine bS ?_ Br.out)|exact HB.out)))⟩;clear hw Bg Ba Bc Bf HB;revert n0_ n1_ n2_ n3_ n4_;intro Bg Ba Bc Bf HB;have BV:w33.cell? ⟨Bh,0,none⟩=some (.slice Ao29 t173.length co29):=(bC Bf.out 0).trans rfl;have BW:w33.cell? ⟨Bh,1,none⟩=some (.int .i64 t176):=(bC Bf.out 1).trans rfl;have BX:=bF Bf.out 0;have BY:=bF Bf.out 1;have p18:0≤(t171:Int):=of_decide_eq_true (by first|(with_reducible assumption)|assumption);have q18:(t171:Int)<((t173.length:Int):Int):=of_decide_eq_true (by first|(with_reducible assumption)|assumption);obtain ⟨go18,co18,eo18,Bs,gl18,cl18,HG18⟩:=Kd.R_form Bg.out (by omega);(first|cases eo18|(injection eo18 with ea_ en_ ec_;(first|subst ea_|(injection ea_ with ea_;subst ea_));subst ec_;clear en_));have GB18:=Am Bs;have GG18:=Am HG18;clear Bs gl18 HG18;obtain ⟨ce18,hcl18,hM18,hcc18,hfr18⟩:=Kd.R_elem Bg.out z86 (t171:Int) p18 q18;obtain rfl:=k86_openM hM18;have hx18_0:w33.cell? ⟨go18,(t171:Int).toNat * 4,none⟩=some (.int .i64 ((rd_T86 t173 t171).f0)):=hcc18 0 _ rfl;have hx18_1:w33.cell? ⟨go18,(t171:Int).toNat * 4 + 1,none⟩=some (.int .i64 ((rd_T86 t173 t171).f1)):=hcc18 1 _ rfl;have hx18_2:w33.cell? ⟨go18,(t171:Int).toNat * 4 + 2,none⟩=some (.int .i64 ((rd_T86 t173 t171).f2)):=hcc18 2 _ rfl;have hx18_3:w33.cell? ⟨go18,(t171:Int).toNat * 4 + 3,none⟩=some (.bool ((rd_T86 t173 t171).f3)):=hcc18 3 _ rfl;have hf18_0:w33.frozen? ⟨go18,(t171:Int).toNat * 4,none⟩=false:=hfr18 0;have hf18_1:w33.frozen? ⟨go18,(t171:Int).toNat * 4 + 1,none⟩=false:=hfr18 1;have hf18_2:w33.frozen? ⟨go18,(t171:Int).toNat * 4 + 2,none⟩=false:=hfr18 2;have hf18_3:w33.frozen? ⟨go18,(t171:Int).toNat * 4 + 3,none⟩=false:=hfr18 3;clear hcl18 hcc18 hfr18 hM18;replace p18:=eq_true p18;replace q18:=eq_true q18;have HX35:=Am (show Kd.R k86 86 w33 w.heap.size (fun _=>True) (.slice (some ⟨go18,0,none⟩) t173.length co29) t173 from (rL Bg.out));obtain ⟨ce35,hcl35,hM35,hcc35,hfr35⟩:=Kd.R_elem HX35.out z86 (t171:Int) (of_decide_eq_true (by first|(with_reducible assumption)|assumption)) (by have h_:(t171:Int)<((t173.length:Int):Int):=of_decide_eq_true (by first|(with_reducible assumption)|assumption);first|exact h_|(have e_:=(Kd.R_reads' Bg.out).1;omega)|simpa using h_);obtain rfl:=k86_openM hM35;have HP35:=Kd.R_seg HX35.out (t171:Int) (of_decide_eq_true (by first|(with_reducible assumption)|assumption)) (by have h_:(t171:Int)<((t173.length:Int):Int):=of_decide_eq_true (by first|(with_reducible assumption)|assumption);first|exact h_|(have e_:=(Kd.R_reads' Bg.out).1;omega)|simpa using h_) (seg:=[.bool false]) (j:=3) hcl35 hcc35 (show 4≤4 from by decide) (x':=(⟨(rd_T86 t173 t171).f0,(rd_T86 t173 t171).f1,(rd_T86 t173 t171).f2,false⟩:S86)) (k86_mkM _ _ _ (⟨(rd_T86 t173 t171).f0,(rd_T86 t173 t171).f1,(rd_T86 t173 t171).f2,false⟩:S86) ) (fun _ hk=>hk);have hx35_3:=hcc35 3 _ rfl;(try simp only [show (k86).sz=4 from rfl,Nat.mul_one,Nat.add_zero] at hx35_3);have hf35_3:=hfr35 3;(try simp only [show (k86).sz=4 from rfl,Nat.mul_one,Nat.add_zero] at hf35_3);clear hcl35 hcc35 hfr35 hM35)|((with_reducible refine gate_store (t:=4) (p:=25) rfl ?_);refine store_event (t:=4) (p:=25) (v:=?vo_w36) (w1:=(w33.setCell ⟨go18,(t171:Int).toNat * 4 + 3,none⟩ (.bool false))) ?hg ?ho ?hn ?hr ?_;(case ho=>rfl);(case hg=>rfl);(case hn=>rfl);(case hr=>first|(go_simp;done)|(go_simp;rfl));intro w36 hw;have hg:w33.grownBy w36 (some go18):=(by rw [hw];exact HP35.2);have hp_:Kd.R k86 86 w36 w.heap.size (fun _=>True) (.slice (some ⟨go18,0,none⟩) t173.length co29) y178:=(by rw [hw,Ny178.out];exact HP35.1);clear HP35;have n0_:=Am (blk_grown (g:=Bb) (o:=.cells #[.slice A0_0 l0_0.length c0_0,.int .i64 a0_1] 47 (0,0)) (bL Ba.out) hg (Kd.R_ne Bg.out Ba.out (by decide)));have n1_:=Am (blk_grown (g:=Bd) (o:=.cells #[.slice none 0 0,.int .i64 0] 47 (0,0)) (bL Bc.out) hg (Kd.R_ne Bg.out Bc.out (by decide)));have n2_:=Am (hp_);have n3_:=Am (blk_grown (g:=Bh) (o:=.cells #[.slice (some ⟨go18,0,none⟩) t173.length co29,.int .i64 t176] 47 (0,0)) (bL Bf.out) hg (Kd.R_ne Bg.out Bf.out (by decide)));have n4_:=Am ((by rw [hw];exact bS (HB.out) GB18.out:Below w.heap.size w w36));clear Ba Bc Bg Bf HB;revert n0_ n1_ n2_ n3_ n4_;intro Ba Bc Bg Bf HB;clear hg hw hp_;have BZ:w36.cell? ⟨Bh,0,none⟩=some (.slice (some ⟨go18,0,none⟩) t173.length co29):=(bC Bf.out 0).trans rfl;have B0:w36.cell? ⟨Bh,1,none⟩=some (.int .i64 t176):=(bC Bf.out 1).trans rfl;have B1:=bF Bf.out 0;have B2:=bF Bf.out 1;have B3:w36.cell? ⟨Bd,0,none⟩=some (.slice none 0 0):=(bC Bc.out 0).trans rfl;have B4:w36.cell? ⟨Bd,1,none⟩=some (.int .i64 0):=(bC Bc.out 1).trans rfl;have B5:=bF Bc.out 0;have B6:=bF Bc.out 1))
 refine bodyPost_ret (results_ct rfl _ _ Bd 47 #[.slice (some ⟨go18,0,none⟩) t173.length co29,.int .i64 t176] (0,0) _ rfl (by (with_reducible repeat (first|refine bN ?_ _|refine bD ?_|refine bA ?_ _));refine blk_put (cs:=#[.slice (some ⟨go18,0,none⟩) t173.length co29,.int .i64 0]) ?_ 1 _ rfl;(with_reducible repeat (first|refine bN ?_ _|refine bD ?_|refine bA ?_ _));refine blk_put (cs:=#[.slice none 0 0,.int .i64 0]) ?_ 0 _ rfl;(with_reducible repeat (first|refine bN ?_ _|refine bD ?_|refine bA ?_ _));exact Bc.out) Try.underlying47 rfl (by kernel_rfl)) rfl ?_
 exact ⟨_,by first|rfl|(simp [errW_none,errW_some] <;> rfl)|(simp [*,errW_none,errW_some] <;> rfl),by (with_reducible repeat (first|apply rA|apply rN|apply rD));exact rM (rF (p:=⟨Bd,1,none⟩) (rF (p:=⟨Bd,0,none⟩) (rT Bg.out Bc.out (by decide)) (fun _ hk=>hk.2) (.slice (some ⟨go18,0,none⟩) t173.length co29)) (fun _ hk=>hk.2) (.int .i64 t176)) (fun _ hk=>trivial),by repeat (first|(with_reducible first|exact HB.out|apply oA|apply pN|apply o1|refine bS ?_ Be.out|refine bS ?_ Bi.out|refine bS ?_ Br.out)|exact HB.out)⟩/-! ### laws_eqTask: function 104 -/
def laws_eqTask.f (a0_0 : Int) (a0_1 : Int) (a0_2 : Int) (a0_3 : Bool) (a1_0 : Int) (a1_1 : Int) (a1_2 : Int) (a1_3 : Bool) : Option (Bool) := if a0_0 = a1_0 then (if a0_1 = a1_1 then (if a0_2 = a1_2 then (if (a0_3 != a1_3) = true then (some false) else (some true)) else (some false)) else (some false)) else (some false)
set_option maxHeartbeats 2000000 in
set_option maxRecDepth 100000 in
theorem laws_eqTask.calls (a0_0:Int) (a0_1:Int) (a0_2:Int) (a0_3:Bool) (a1_0:Int) (a1_1:Int) (a1_2:Int) (a1_3:Bool) (r:Bool) (w:World) (h:laws_eqTask.f a0_0 a0_1 a0_2 a0_3 a1_0 a1_1 a1_2 a1_3=some r) :
  Calls Try.prog 104 #[.agg #[.int .i64 a0_0,.int .i64 a0_1,.int .i64 a0_2,.bool a0_3],.agg #[.int .i64 a1_0,.int .i64 a1_1,.int .i64 a1_2,.bool a1_3]] w fun e w'=>e=.returned (.bool r)∧Below w.heap.size w w':=by
 have hu86:=Try.underlying86
 have HB:=Am (Below.refl w.heap.size w)
 have H:(if a0_0=a1_0 then (if a0_1=a1_1 then (if a0_2=a1_2 then (if (a0_3 != a1_3)=true then (some false) else (some true)) else (some false)) else (some false)) else (some false))=some r:=h
 clear h
 by_cases c3:a0_0=a1_0
 rotate_left
 ·rw [if_neg c3] at H
  have c3b0:(a0_0 == a1_0)=false:=beq_eq_false_iff_ne.mpr c3
  have c3b1:(a0_0 != a1_0)=true:=bne_iff_ne.mpr c3
  obtain rfl:=Option.some.inj H
  go_enter Try.func104,Try.ntmps104
  go_wp2_with (first|((with_reducible refine gate_dst (N:=2) rfl ?_);refine box_event ?hg (N:=2) ?hd (cs:=#[.int .i64 a0_0,.int .i64 a0_1,.int .i64 a0_2,.bool a0_3]) (t:=86) ?hr ?_;(case hd=>rfl);(case hg=>rfl);(case hr=>first|(go_simp;done)|(go_simp;rfl));intro Bb hg w27 hbox hb;have n0_:=Am (bP (by repeat (first|(with_reducible first|exact HB.out|apply oA|apply pN|apply o1)|exact HB.out)) hb);have n1_:=Am (hbox);have n2_:=Am ((by rw [hg];exact (bZ (by repeat (first|(with_reducible first|exact HB.out|apply oA|apply pN|apply o1)|exact HB.out))):w.heap.size≤Bb));have n3_:=Am ((by rw [hg];exact (bZ (by repeat (first|(with_reducible first|exact HB.out|apply oA|apply pN|apply o1)|exact HB.out))):w.heap.size≤Bb));clear HB;revert n0_ n1_ n2_ n3_;intro HB Ba Bi Be;clear hb hbox hg)|((with_reducible refine gate_dst (N:=3) rfl ?_);refine box_event ?hg (N:=3) ?hd (cs:=#[.int .i64 a1_0,.int .i64 a1_1,.int .i64 a1_2,.bool a1_3]) (t:=86) ?hr ?_;(case hd=>rfl);(case hg=>rfl);(case hr=>first|(go_simp;done)|(go_simp;rfl));intro Bc hg w28 hbox hb;have n0_:=Am (bB (g:=Bb) (o:=.cells #[.int .i64 a0_0,.int .i64 a0_1,.int .i64 a0_2,.bool a0_3] 86 (0,0)) (bL Ba.out) hb);have n1_:=Am (bP (by repeat (first|(with_reducible first|exact HB.out|apply oA|apply pN|apply o1|refine bS ?_ Be.out)|exact HB.out)) hb);have n2_:=Am (hbox);have n3_:=Am ((by rw [hg];exact (bZ (by repeat (first|(with_reducible first|exact HB.out|apply oA|apply pN|apply o1|refine bS ?_ Be.out)|exact HB.out))):w.heap.size≤Bc));have n4_:=Am ((by rw [hg];exact (bZ (by repeat (first|(with_reducible first|exact HB.out|apply oA|apply pN|apply o1|refine bS ?_ Be.out)|exact HB.out))):w.heap.size≤Bc));have n5_:=Am ((by rw [hg];exact Nat.ne_of_lt (blk_lt (g:=Bb) (o:=.cells #[.int .i64 a0_0,.int .i64 a0_1,.int .i64 a0_2,.bool a0_3] 86 (0,0)) (bL Ba.out)):Bb≠Bc));have n6_:=Am ((by rw [hg];exact Nat.ne_of_gt (blk_lt (g:=Bb) (o:=.cells #[.int .i64 a0_0,.int .i64 a0_1,.int .i64 a0_2,.bool a0_3] 86 (0,0)) (bL Ba.out)):Bc≠Bb));clear Ba HB;revert n0_ n1_ n2_ n3_ n4_ n5_ n6_;intro Ba HB Bd Bj Bh Bf Bg;clear hb hbox hg;have DI:=Bf.out;have DJ:=Bg.out;have Dm:w28.cell? ⟨Bb,0,none⟩=some (.int .i64 a0_0):=(bC Ba.out 0).trans rfl;have Dn:w28.cell? ⟨Bb,1,none⟩=some (.int .i64 a0_1):=(bC Ba.out 1).trans rfl;have Do:w28.cell? ⟨Bb,2,none⟩=some (.int .i64 a0_2):=(bC Ba.out 2).trans rfl;have Dp:w28.cell? ⟨Bb,3,none⟩=some (.bool a0_3):=(bC Ba.out 3).trans rfl;have Dq:=bF Ba.out 0;have Dr:=bF Ba.out 1;have Ds:=bF Ba.out 2;have Dt:=bF Ba.out 3;have Du:w28.cell? ⟨Bc,0,none⟩=some (.int .i64 a1_0):=(bC Bd.out 0).trans rfl;have Dv:w28.cell? ⟨Bc,1,none⟩=some (.int .i64 a1_1):=(bC Bd.out 1).trans rfl;have Dw:w28.cell? ⟨Bc,2,none⟩=some (.int .i64 a1_2):=(bC Bd.out 2).trans rfl;have Dx:w28.cell? ⟨Bc,3,none⟩=some (.bool a1_3):=(bC Bd.out 3).trans rfl;have Dy:=bF Bd.out 0;have Dz:=bF Bd.out 1;have DA:=bF Bd.out 2;have DB:=bF Bd.out 3))
  go_ret
  exact ⟨by first|rfl|(simp [errW_none,errW_some] <;> rfl)|(simp [*,errW_none,errW_some] <;> rfl),by repeat (first|(with_reducible first|exact HB.out|apply oA|apply pN|apply o1|refine bS ?_ Be.out|refine bS ?_ Bh.out)|exact HB.out)⟩

 rw [if_pos c3] at H
 have c3b0:(a0_0 == a1_0)=true:=beq_iff_eq.mpr c3
 have c3b1:(a0_0 != a1_0)=false:=bne_eq_false_iff_eq.mpr c3
 clear c3
 by_cases c4:a0_1=a1_1
 rotate_left
 ·rw [if_neg c4] at H
  have c4b0:(a0_1 == a1_1)=false:=beq_eq_false_iff_ne.mpr c4
  have c4b1:(a0_1 != a1_1)=true:=bne_iff_ne.mpr c4
  obtain rfl:=Option.some.inj H
  go_enter Try.func104,Try.ntmps104
  go_wp2_with (first|((with_reducible refine gate_dst (N:=2) rfl ?_);refine box_event ?hg (N:=2) ?hd (cs:=#[.int .i64 a0_0,.int .i64 a0_1,.int .i64 a0_2,.bool a0_3]) (t:=86) ?hr ?_;(case hd=>rfl);(case hg=>rfl);(case hr=>first|(go_simp;done)|(go_simp;rfl));intro Bb hg w22 hbox hb;have n0_:=Am (bP (by repeat (first|(with_reducible first|exact HB.out|apply oA|apply pN|apply o1)|exact HB.out)) hb);have n1_:=Am (hbox);have n2_:=Am ((by rw [hg];exact (bZ (by repeat (first|(with_reducible first|exact HB.out|apply oA|apply pN|apply o1)|exact HB.out))):w.heap.size≤Bb));have n3_:=Am ((by rw [hg];exact (bZ (by repeat (first|(with_reducible first|exact HB.out|apply oA|apply pN|apply o1)|exact HB.out))):w.heap.size≤Bb));clear HB;revert n0_ n1_ n2_ n3_;intro HB Ba Bi Be;clear hb hbox hg)|((with_reducible refine gate_dst (N:=3) rfl ?_);refine box_event ?hg (N:=3) ?hd (cs:=#[.int .i64 a1_0,.int .i64 a1_1,.int .i64 a1_2,.bool a1_3]) (t:=86) ?hr ?_;(case hd=>rfl);(case hg=>rfl);(case hr=>first|(go_simp;done)|(go_simp;rfl));intro Bc hg w23 hbox hb;have n0_:=Am (bB (g:=Bb) (o:=.cells #[.int .i64 a0_0,.int .i64 a0_1,.int .i64 a0_2,.bool a0_3] 86 (0,0)) (bL Ba.out) hb);have n1_:=Am (bP (by repeat (first|(with_reducible first|exact HB.out|apply oA|apply pN|apply o1|refine bS ?_ Be.out)|exact HB.out)) hb);have n2_:=Am (hbox);have n3_:=Am ((by rw [hg];exact (bZ (by repeat (first|(with_reducible first|exact HB.out|apply oA|apply pN|apply o1|refine bS ?_ Be.out)|exact HB.out))):w.heap.size≤Bc));have n4_:=Am ((by rw [hg];exact (bZ (by repeat (first|(with_reducible first|exact HB.out|apply oA|apply pN|apply o1|refine bS ?_ Be.out)|exact HB.out))):w.heap.size≤Bc));have n5_:=Am ((by rw [hg];exact Nat.ne_of_lt (blk_lt (g:=Bb) (o:=.cells #[.int .i64 a0_0,.int .i64 a0_1,.int .i64 a0_2,.bool a0_3] 86 (0,0)) (bL Ba.out)):Bb≠Bc));have n6_:=Am ((by rw [hg];exact Nat.ne_of_gt (blk_lt (g:=Bb) (o:=.cells #[.int .i64 a0_0,.int .i64 a0_1,.int .i64 a0_2,.bool a0_3] 86 (0,0)) (bL Ba.out)):Bc≠Bb));clear Ba HB;revert n0_ n1_ n2_ n3_ n4_ n5_ n6_;intro Ba HB Bd Bj Bh Bf Bg;clear hb hbox hg;have DG:=Bf.out;have DH:=Bg.out;have B6:w23.cell? ⟨Bb,0,none⟩=some (.int .i64 a0_0):=(bC Ba.out 0).trans rfl;have B7:w23.cell? ⟨Bb,1,none⟩=some (.int .i64 a0_1):=(bC Ba.out 1).trans rfl;have B8:w23.cell? ⟨Bb,2,none⟩=some (.int .i64 a0_2):=(bC Ba.out 2).trans rfl;have B9:w23.cell? ⟨Bb,3,none⟩=some (.bool a0_3):=(bC Ba.out 3).trans rfl;have Da:=bF Ba.out 0;have Db:=bF Ba.out 1;have Dc:=bF Ba.out 2;have Dd:=bF Ba.out 3;have De:w23.cell? ⟨Bc,0,none⟩=some (.int .i64 a1_0):=(bC Bd.out 0).trans rfl;have Df:w23.cell? ⟨Bc,1,none⟩=some (.int .i64 a1_1):=(bC Bd.out 1).trans rfl;have Dg:w23.cell? ⟨Bc,2,none⟩=some (.int .i64 a1_2):=(bC Bd.out 2).trans rfl;have Dh:w23.cell? ⟨Bc,3,none⟩=some (.bool a1_3):=(bC Bd.out 3).trans rfl;have Di:=bF Bd.out 0;have Dj:=bF Bd.out 1;have Dk:=bF Bd.out 2;have Dl:=bF Bd.out 3))
  go_ret
  exact ⟨by first|rfl|(simp [errW_none,errW_some] <;> rfl)|(simp [*,errW_none,errW_some] <;> rfl),by repeat (first|(with_reducible first|exact HB.out|apply oA|apply pN|apply o1|refine bS ?_ Be.out|refine bS ?_ Bh.out)|exact HB.out)⟩
 rw [if_pos c4] at H
 have c4b0:(a0_1 == a1_1)=true:=beq_iff_eq.mpr c4
 have c4b1:(a0_1 != a1_1)=false:=bne_eq_false_iff_eq.mpr c4
 clear c4
 by_cases c5:a0_2=a1_2
 rotate_left
 ·rw [if_neg c5] at H
  have c5b0:(a0_2 == a1_2)=false:=beq_eq_false_iff_ne.mpr c5
  have c5b1:(a0_2 != a1_2)=true:=bne_iff_ne.mpr c5
  obtain rfl:=Option.some.inj H
  go_enter Try.func104,Try.ntmps104
  go_wp2_with (first|((with_reducible refine gate_dst (N:=2) rfl ?_);refine box_event ?hg (N:=2) ?hd (cs:=#[.int .i64 a0_0,.int .i64 a0_1,.int .i64 a0_2,.bool a0_3]) (t:=86) ?hr ?_;(case hd=>rfl);(case hg=>rfl);(case hr=>first|(go_simp;done)|(go_simp;rfl));intro Bb hg w17 hbox hb;have n0_:=Am (bP (by repeat (first|(with_reducible first|exact HB.out|apply oA|apply pN|apply o1)|exact HB.out)) hb);have n1_:=Am (hbox);have n2_:=Am ((by rw [hg];exact (bZ (by repeat (first|(with_reducible first|exact HB.out|apply oA|apply pN|apply o1)|exact HB.out))):w.heap.size≤Bb));have n3_:=Am ((by rw [hg];exact (bZ (by repeat (first|(with_reducible first|exact HB.out|apply oA|apply pN|apply o1)|exact HB.out))):w.heap.size≤Bb));clear HB;revert n0_ n1_ n2_ n3_;intro HB Ba Bi Be;clear hb hbox hg)|((with_reducible refine gate_dst (N:=3) rfl ?_);refine box_event ?hg (N:=3) ?hd (cs:=#[.int .i64 a1_0,.int .i64 a1_1,.int .i64 a1_2,.bool a1_3]) (t:=86) ?hr ?_;(case hd=>rfl);(case hg=>rfl);(case hr=>first|(go_simp;done)|(go_simp;rfl));intro Bc hg w18 hbox hb;have n0_:=Am (bB (g:=Bb) (o:=.cells #[.int .i64 a0_0,.int .i64 a0_1,.int .i64 a0_2,.bool a0_3] 86 (0,0)) (bL Ba.out) hb);have n1_:=Am (bP (by repeat (first|(with_reducible first|exact HB.out|apply oA|apply pN|apply o1|refine bS ?_ Be.out)|exact HB.out)) hb);have n2_:=Am (hbox);have n3_:=Am ((by rw [hg];exact (bZ (by repeat (first|(with_reducible first|exact HB.out|apply oA|apply pN|apply o1|refine bS ?_ Be.out)|exact HB.out))):w.heap.size≤Bc));have n4_:=Am ((by rw [hg];exact (bZ (by repeat (first|(with_reducible first|exact HB.out|apply oA|apply pN|apply o1|refine bS ?_ Be.out)|exact HB.out))):w.heap.size≤Bc));have n5_:=Am ((by rw [hg];exact Nat.ne_of_lt (blk_lt (g:=Bb) (o:=.cells #[.int .i64 a0_0,.int .i64 a0_1,.int .i64 a0_2,.bool a0_3] 86 (0,0)) (bL Ba.out)):Bb≠Bc));have n6_:=Am ((by rw [hg];exact Nat.ne_of_gt (blk_lt (g:=Bb) (o:=.cells #[.int .i64 a0_0,.int .i64 a0_1,.int .i64 a0_2,.bool a0_3] 86 (0,0)) (bL Ba.out)):Bc≠Bb));clear Ba HB;revert n0_ n1_ n2_ n3_ n4_ n5_ n6_;intro Ba HB Bd Bj Bh Bf Bg;clear hb hbox hg;have DE:=Bf.out;have DF:=Bg.out;have BQ:w18.cell? ⟨Bb,0,none⟩=some (.int .i64 a0_0):=(bC Ba.out 0).trans rfl;have BR:w18.cell? ⟨Bb,1,none⟩=some (.int .i64 a0_1):=(bC Ba.out 1).trans rfl;have BS:w18.cell? ⟨Bb,2,none⟩=some (.int .i64 a0_2):=(bC Ba.out 2).trans rfl;have BT:w18.cell? ⟨Bb,3,none⟩=some (.bool a0_3):=(bC Ba.out 3).trans rfl;have BU:=bF Ba.out 0;have BV:=bF Ba.out 1;have BW:=bF Ba.out 2;have BX:=bF Ba.out 3;have BY:w18.cell? ⟨Bc,0,none⟩=some (.int .i64 a1_0):=(bC Bd.out 0).trans rfl;have BZ:w18.cell? ⟨Bc,1,none⟩=some (.int .i64 a1_1):=(bC Bd.out 1).trans rfl;have B0:w18.cell? ⟨Bc,2,none⟩=some (.int .i64 a1_2):=(bC Bd.out 2).trans rfl;have B1:w18.cell? ⟨Bc,3,none⟩=some (.bool a1_3):=(bC Bd.out 3).trans rfl;have B2:=bF Bd.out 0;have B3:=bF Bd.out 1;have B4:=bF Bd.out 2;have B5:=bF Bd.out 3))
  go_ret
  exact ⟨by first|rfl|(simp [errW_none,errW_some] <;> rfl)|(simp [*,errW_none,errW_some] <;> rfl),by repeat (first|(with_reducible first|exact HB.out|apply oA|apply pN|apply o1|refine bS ?_ Be.out|refine bS ?_ Bh.out)|exact HB.out)⟩
 rw [if_pos c5] at H
 have c5b0:(a0_2 == a1_2)=true:=beq_iff_eq.mpr c5
 have c5b1:(a0_2 != a1_2)=false:=bne_eq_false_iff_eq.mpr c5
 clear c5
 by_cases c6:(a0_3 != a1_3)=true
 rotate_left
 ·rw [if_neg c6] at H
  have c6b0:(a0_3 != a1_3)=false:=by simpa using c6
  (try (have c6b1:decide (a0_3=a1_3)=true:=by simpa using c6))
  (try (have c6b2:(a0_3 == a1_3)=true:=by simpa using c6))
  clear c6
  obtain rfl:=Option.some.inj H
  go_enter Try.func104,Try.ntmps104
  go_wp2_with (first|((with_reducible refine gate_dst (N:=2) rfl ?_);refine box_event ?hg (N:=2) ?hd (cs:=#[.int .i64 a0_0,.int .i64 a0_1,.int .i64 a0_2,.bool a0_3]) (t:=86) ?hr ?_;(case hd=>rfl);(case hg=>rfl);(case hr=>first|(go_simp;done)|(go_simp;rfl));intro Bb hg w12 hbox hb;have n0_:=Am (bP (by repeat (first|(with_reducible first|exact HB.out|apply oA|apply pN|apply o1)|exact HB.out)) hb);have n1_:=Am (hbox);have n2_:=Am ((by rw [hg];exact (bZ (by repeat (first|(with_reducible first|exact HB.out|apply oA|apply pN|apply o1)|exact HB.out))):w.heap.size≤Bb));have n3_:=Am ((by rw [hg];exact (bZ (by repeat (first|(with_reducible first|exact HB.out|apply oA|apply pN|apply o1)|exact HB.out))):w.heap.size≤Bb));clear HB;revert n0_ n1_ n2_ n3_;intro HB Ba Bi Be;clear hb hbox hg)|((with_reducible refine gate_dst (N:=3) rfl ?_);refine box_event ?hg (N:=3) ?hd (cs:=#[.int .i64 a1_0,.int .i64 a1_1,.int .i64 a1_2,.bool a1_3]) (t:=86) ?hr ?_;(case hd=>rfl);(case hg=>rfl);(case hr=>first|(go_simp;done)|(go_simp;rfl));intro Bc hg w13 hbox hb;have n0_:=Am (bB (g:=Bb) (o:=.cells #[.int .i64 a0_0,.int .i64 a0_1,.int .i64 a0_2,.bool a0_3] 86 (0,0)) (bL Ba.out) hb);have n1_:=Am (bP (by repeat (first|(with_reducible first|exact HB.out|apply oA|apply pN|apply o1|refine bS ?_ Be.out)|exact HB.out)) hb);have n2_:=Am (hbox);have n3_:=Am ((by rw [hg];exact (bZ (by repeat (first|(with_reducible first|exact HB.out|apply oA|apply pN|apply o1|refine bS ?_ Be.out)|exact HB.out))):w.heap.size≤Bc));have n4_:=Am ((by rw [hg];exact (bZ (by repeat (first|(with_reducible first|exact HB.out|apply oA|apply pN|apply o1|refine bS ?_ Be.out)|exact HB.out))):w.heap.size≤Bc));have n5_:=Am ((by rw [hg];exact Nat.ne_of_lt (blk_lt (g:=Bb) (o:=.cells #[.int .i64 a0_0,.int .i64 a0_1,.int .i64 a0_2,.bool a0_3] 86 (0,0)) (bL Ba.out)):Bb≠Bc));have n6_:=Am ((by rw [hg];exact Nat.ne_of_gt (blk_lt (g:=Bb) (o:=.cells #[.int .i64 a0_0,.int .i64 a0_1,.int .i64 a0_2,.bool a0_3] 86 (0,0)) (bL Ba.out)):Bc≠Bb));clear Ba HB;revert n0_ n1_ n2_ n3_ n4_ n5_ n6_;intro Ba HB Bd Bj Bh Bf Bg;clear hb hbox hg;have DC:=Bf.out;have DD:=Bg.out;have BA:w13.cell? ⟨Bb,0,none⟩=some (.int .i64 a0_0):=(bC Ba.out 0).trans rfl;have BB:w13.cell? ⟨Bb,1,none⟩=some (.int .i64 a0_1):=(bC Ba.out 1).trans rfl;have BC:w13.cell? ⟨Bb,2,none⟩=some (.int .i64 a0_2):=(bC Ba.out 2).trans rfl;have BD:w13.cell? ⟨Bb,3,none⟩=some (.bool a0_3):=(bC Ba.out 3).trans rfl;have BE:=bF Ba.out 0;have BF:=bF Ba.out 1;have BG:=bF Ba.out 2;have BH:=bF Ba.out 3;have BI:w13.cell? ⟨Bc,0,none⟩=some (.int .i64 a1_0):=(bC Bd.out 0).trans rfl;have BJ:w13.cell? ⟨Bc,1,none⟩=some (.int .i64 a1_1):=(bC Bd.out 1).trans rfl;have BK:w13.cell? ⟨Bc,2,none⟩=some (.int .i64 a1_2):=(bC Bd.out 2).trans rfl;have BL:w13.cell? ⟨Bc,3,none⟩=some (.bool a1_3):=(bC Bd.out 3).trans rfl;have BM:=bF Bd.out 0;have BN:=bF Bd.out 1;have BO:=bF Bd.out 2;have BP:=bF Bd.out 3))
  go_ret
  exact ⟨by first|rfl|(simp [errW_none,errW_some] <;> rfl)|(simp [*,errW_none,errW_some] <;> rfl),by repeat (first|(with_reducible first|exact HB.out|apply oA|apply pN|apply o1|refine bS ?_ Be.out|refine bS ?_ Bh.out)|exact HB.out)⟩
 rw [if_pos c6] at H
 have c6b0:(a0_3 != a1_3)=true:=c6
 (try (have c6b1:decide (a0_3=a1_3)=false:=by simpa using c6))
 (try (have c6b2:(a0_3 == a1_3)=false:=by simpa using c6))
 (try (have c6b3:¬ (a0_3=a1_3):=by simpa using c6))
 clear c6
 obtain rfl:=Option.some.inj H
 go_enter Try.func104,Try.ntmps104
 go_wp2_with (first|((with_reducible refine gate_dst (N:=2) rfl ?_);refine box_event ?hg (N:=2) ?hd (cs:=#[.int .i64 a0_0,.int .i64 a0_1,.int .i64 a0_2,.bool a0_3]) (t:=86) ?hr ?_;(case hd=>rfl);(case hg=>rfl);(case hr=>first|(go_simp;done)|(go_simp;rfl));intro Bb hg w7 hbox hb;have n0_:=Am (bP (by repeat (first|(with_reducible first|exact HB.out|apply oA|apply pN|apply o1)|exact HB.out)) hb);have n1_:=Am (hbox);have n2_:=Am ((by rw [hg];exact (bZ (by repeat (first|(with_reducible first|exact HB.out|apply oA|apply pN|apply o1)|exact HB.out))):w.heap.size≤Bb));have n3_:=Am ((by rw [hg];exact (bZ (by repeat (first|(with_reducible first|exact HB.out|apply oA|apply pN|apply o1)|exact HB.out))):w.heap.size≤Bb));clear HB;revert n0_ n1_ n2_ n3_;intro HB Ba Bi Be;clear hb hbox hg)|((with_reducible refine gate_dst (N:=3) rfl ?_);refine box_event ?hg (N:=3) ?hd (cs:=#[.int .i64 a1_0,.int .i64 a1_1,.int .i64 a1_2,.bool a1_3]) (t:=86) ?hr ?_;(case hd=>rfl);(case hg=>rfl);(case hr=>first|(go_simp;done)|(go_simp;rfl));intro Bc hg w8 hbox hb;have n0_:=Am (bB (g:=Bb) (o:=.cells #[.int .i64 a0_0,.int .i64 a0_1,.int .i64 a0_2,.bool a0_3] 86 (0,0)) (bL Ba.out) hb);have n1_:=Am (bP (by repeat (first|(with_reducible first|exact HB.out|apply oA|apply pN|apply o1|refine bS ?_ Be.out)|exact HB.out)) hb);have n2_:=Am (hbox);have n3_:=Am ((by rw [hg];exact (bZ (by repeat (first|(with_reducible first|exact HB.out|apply oA|apply pN|apply o1|refine bS ?_ Be.out)|exact HB.out))):w.heap.size≤Bc));have n4_:=Am ((by rw [hg];exact (bZ (by repeat (first|(with_reducible first|exact HB.out|apply oA|apply pN|apply o1|refine bS ?_ Be.out)|exact HB.out))):w.heap.size≤Bc));have n5_:=Am ((by rw [hg];exact Nat.ne_of_lt (blk_lt (g:=Bb) (o:=.cells #[.int .i64 a0_0,.int .i64 a0_1,.int .i64 a0_2,.bool a0_3] 86 (0,0)) (bL Ba.out)):Bb≠Bc));have n6_:=Am ((by rw [hg];exact Nat.ne_of_gt (blk_lt (g:=Bb) (o:=.cells #[.int .i64 a0_0,.int .i64 a0_1,.int .i64 a0_2,.bool a0_3] 86 (0,0)) (bL Ba.out)):Bc≠Bb));clear Ba HB;revert n0_ n1_ n2_ n3_ n4_ n5_ n6_;intro Ba HB Bd Bj Bh Bf Bg;clear hb hbox hg;have DK:=Bf.out;have DL:=Bg.out;have Bk:w8.cell? ⟨Bb,0,none⟩=some (.int .i64 a0_0):=(bC Ba.out 0).trans rfl;have Bl:w8.cell? ⟨Bb,1,none⟩=some (.int .i64 a0_1):=(bC Ba.out 1).trans rfl;have Bm:w8.cell? ⟨Bb,2,none⟩=some (.int .i64 a0_2):=(bC Ba.out 2).trans rfl;have Bn:w8.cell? ⟨Bb,3,none⟩=some (.bool a0_3):=(bC Ba.out 3).trans rfl;have Bo:=bF Ba.out 0;have Bp:=bF Ba.out 1;have Bq:=bF Ba.out 2;have Br:=bF Ba.out 3;have Bs:w8.cell? ⟨Bc,0,none⟩=some (.int .i64 a1_0):=(bC Bd.out 0).trans rfl;have Bt:w8.cell? ⟨Bc,1,none⟩=some (.int .i64 a1_1):=(bC Bd.out 1).trans rfl;have Bu:w8.cell? ⟨Bc,2,none⟩=some (.int .i64 a1_2):=(bC Bd.out 2).trans rfl;have Bv:w8.cell? ⟨Bc,3,none⟩=some (.bool a1_3):=(bC Bd.out 3).trans rfl;have Bw:=bF Bd.out 0;have Bx:=bF Bd.out 1;have By:=bF Bd.out 2;have Bz:=bF Bd.out 3))
 go_ret
 exact ⟨by first|rfl|(simp [errW_none,errW_some] <;> rfl)|(simp [*,errW_none,errW_some] <;> rfl),by repeat (first|(with_reducible first|exact HB.out|apply oA|apply pN|apply o1|refine bS ?_ Be.out|refine bS ?_ Bh.out)|exact HB.out)⟩
end Go.Proofs.Ytehekikjadjdaaa.PFnExactQueueSleep
