/- Proved here, without a condition beyond those that each theorem states: what the Go functions named below do is what the plain functions of the same names say. Written by xprint.py, a program of this session. -/
import Derived.Test.YtehekikjadjdaaaPFnExactQueueLessx0
namespace Go.Proofs.Ytehekikjadjdaaa.PFnExactQueueLess
open Go.RowKit Go.Proofs.YtehekikjadjdaaaW.PrintWords Go.Proofs.YtehekikjadjdaaaW.PrintLast Go.Proofs.YtehekikjadjdaaaW.PrintMore
attribute [local go_sem] max2_int min2_int max_two min_two max_three min_three max_four min_four   -- for this text's walks alone
set_option linter.unusedVariables false
set_option linter.unusedSimpArgs false

attribute [local go_sem ↓] isSome_setCell_
/-! ### impl_Task_103: function 103 -/
def impl_Task_103.f (l0 : List (S86)) : Option ((List (S86))) := (some (([] : List (S86)) : List (S86))).bind fun y188 => (if y188.length + l0.length < 4398046511104 then (some (y188 ++ l0)) else (none))
set_option maxHeartbeats 2000000 in
set_option maxRecDepth 100000 in
theorem impl_Task_103.calls (A0:Option Addr) (c0:Nat) (l0:List (S86)) (r:List (S86)) (w:World) (hr0:Kd.C k86 w A0 l0.length l0) (hc0:l0.length≤c0) (h:impl_Task_103.f l0=some r) :
  Calls Try.prog 103 #[.slice A0 l0.length c0] w fun e w'=>∃ v0_:Value,e=.returned (v0_)∧Kd.R k86 86 w' w.heap.size (fun _=>True) v0_ r∧Below w.heap.size w w':=by
 cases A0 with
|none =>
  have hl_:l0=[]:=by
   rcases l0 with _|⟨x_,xs_⟩
   ·rfl
   ·exact absurd (hr0.2.2 (by simp)) (by rintro ⟨_,h_,_⟩;cases h_)
  subst hl_
  have hr_:r=[]:=by
   unfold impl_Task_103.f at h
   simpa using h.symm
  subst hr_
  have q_:∀ (w:World) (a:Option Addr) (n c n' c':Nat),(binOp .eql 45 (.slice a n c) (.slice none n' c')).run Try.prog w=.ok (.bool a.isNone) w:=fun w a n c n' c'=>Lib.run_eql_slice_nil w _ _ a n c n' c' Try.underlying45
  go_enter Try.func103,Try.ntmps103
  go_wp2
  go_ret
  exact ⟨_,rfl,Kd.R_nil _ _ _ _ _,Below.refl _ _⟩
|some ad0_ =>
  have HR0:=Am hr0
  have HC0:=Am hc0
  clear hr0 hc0
  have HB:=Am (Below.refl w.heap.size w)
  have H:((some (([]:List (S86)):List (S86))).bind fun y188=>(if y188.length + l0.length<4398046511104 then (some (y188 ++ l0)) else (none)))=some r:=h
  clear h
  obtain ⟨y188,hy188⟩:∃ y_:List (S86),y_=(([]:List (S86))):=⟨_,rfl⟩
  replace H:(if y188.length + l0.length<4398046511104 then (some (y188 ++ l0)) else (none))=some r:=by first|(rw [hy188];with_reducible exact H)|(have H2_:=(Option.bind_some _ _).symm.trans H;rw [hy188];with_reducible exact H2_)|(have H2_:=(Option.bind_some _ _).symm.trans H;with_reducible exact H2_)|with_reducible exact H|(rw [hy188];exact H)|exact H
  have Ny188:=Am hy188
  clear hy188
  by_cases c2:y188.length + l0.length<4398046511104
  rotate_left
  ·rw [if_neg c2] at H
   exact absurd H (by simp)


  rw [if_pos c2] at H
  have LMc2:=Am c2
  clear c2
  obtain ⟨y191,hy191⟩:∃ y_:List (S86),y_=(y188 ++ l0):=⟨_,rfl⟩
  replace H:(some y191)=some r:=by first|(rw [hy191];with_reducible exact H)|(have H2_:=(Option.bind_some _ _).symm.trans H;rw [hy191];with_reducible exact H2_)|(have H2_:=(Option.bind_some _ _).symm.trans H;with_reducible exact H2_)|with_reducible exact H|(rw [hy191];exact H)|exact H
  have Ny191:=Am hy191
  clear hy191
  obtain rfl:=Option.some.inj H
  have q_:∀ (w:World) (a:Option Addr) (n c n' c':Nat),(binOp .eql 45 (.slice a n c) (.slice none n' c')).run Try.prog w=.ok (.bool a.isNone) w:=fun w a n c n' c'=>Lib.run_eql_slice_nil w _ _ a n c n' c' Try.underlying45
  go_enter Try.func103,Try.ntmps103
  go_wp2_with (first|((with_reducible refine gate_dst (N:=5) rfl ?_);refine Kd.R_lit k86 _ 86 ?hg (N:=5) ?hd (xs:=([]:List (S86))) (inner:=[]) (ok:=fun _=>True) (okp:=fun _=>True) ?hr ?hp (fun _ hk=>hk) trivial (Below.refl _ _) (Nat.le_refl _) (by simp) ?_;(case hd=>rfl);(case hg=>rfl);(case hr=>first|(go_simp;done)|(go_simp;rfl));(case hp=>exact (Reps.none _ _));intro v189 w3 ho4 hb hg_ hnew_;clear hg_ hnew_;(first|rw [← Ny188.out] at ho4|(simp only [Int.reduceToNat] at ho4;rw [← Ny188.out] at ho4));have n0_:=Am (Kd.R_lower ho4 (bZ (by repeat (first|(with_reducible first|exact HB.out|apply oA|apply pN|apply o1)|exact HB.out))));have n1_:=Am (bP (by repeat (first|(with_reducible first|exact HB.out|apply oA|apply pN|apply o1)|exact HB.out)) hb);clear HB;revert n0_ n1_;intro Ba HB;clear hb ho4)|((with_reducible refine gate_builtin (b:=.append) (xs:=#[.tmp 5,.tmp 6]) rfl ?_);at_builtin;refine Kd.R_append_rows k86 (w0:=w) w.heap.size rfl (.tmp 5) (.tmp 6) 45 86 (.agg #[(.int .i64 0),(.int .i64 0),(.int .i64 0),(.bool false)]) 32 rfl Try.underlying45 info86 rfl (by decide) (by omega) v189 y188 l0 _ _ _ (fun _=>True) (fun _=>False) rfl rfl ?aO ?aR (fun _ _ h=>h) (fun _ h=>h.elim) ?aF ?aB ?aS ?aL ?_;(case aR=>repeat (first|exact (cB HR0.out HB.out)|(with_reducible refine cA ?_ _)|(with_reducible refine cN ?_ _)|(with_reducible refine cD ?_)));(case aB=>exact (by repeat (first|(with_reducible first|exact HB.out|apply oA|apply pN|apply o1)|exact HB.out)));(case aF=>exact (fun _ _=>trivial));(case aO=>exact (rL Ba.out));(case aS=>exact (bZ (by repeat (first|(with_reducible first|exact HB.out|apply oA|apply pN|apply o1)|exact HB.out))));(case aL=>have:=LMc2.out;omega);intro v192 w5 ho hb hg hat;rw [← Ny191.out] at ho;have n0_:=Am (hb);have n1_:=Am (ho);clear HB Ba;revert n0_ n1_;intro HB Bb;clear ho hb hg hat))
  go_ret
  exact ⟨_,by first|rfl|(simp [errW_none,errW_some] <;> rfl)|(simp [*,errW_none,errW_some] <;> rfl),by (with_reducible repeat (first|apply rA|apply rN|apply rD));exact Bb.out,by repeat (first|(with_reducible first|exact HB.out|apply oA|apply pN|apply o1)|exact HB.out)⟩/-! ### impl_Queue_clone: function 75 -/
def impl_Queue_clone.f (l0_0 : List (S86)) (a0_1 : Int) : Option ((List (S86)) × Int) := (impl_Task_103.f l0_0).bind fun t196 => (some (t196, a0_1))
set_option maxHeartbeats 2000000 in
set_option maxRecDepth 100000 in
theorem impl_Queue_clone.calls (A0_0:Option Addr) (c0_0:Nat) (l0_0:List (S86)) (a0_1:Int) (r1:List (S86)) (r2:Int) (w:World) (hr0_0:Kd.C k86 w A0_0 l0_0.length l0_0) (hc0_0:l0_0.length≤c0_0) (h:impl_Queue_clone.f l0_0 a0_1=some (r1,r2)) :
  Calls Try.prog 75 #[.agg #[.slice A0_0 l0_0.length c0_0,.int .i64 a0_1]] w fun e w'=>∃ v0_:Value,e=.returned (.agg #[v0_,.int .i64 r2])∧Kd.R k86 86 w' w.heap.size (fun _=>True) v0_ r1∧Below w.heap.size w w':=by
 have hu47:=Try.underlying47
 have HR0_0:=Am hr0_0
 have HC0_0:=Am hc0_0
 clear hr0_0 hc0_0
 have HB:=Am (Below.refl w.heap.size w)
 have H:((impl_Task_103.f l0_0).bind fun t196=>(some (t196,a0_1)))=some (r1,r2):=h
 clear h
 replace H:=oC H
 obtain ⟨t196,A20,H⟩:=H
 replace H:(some (t196,a0_1))=some (r1,r2):=H
 have A2:=Am A20
 clear A20
 simp only [Option.some.injEq,Prod.mk.injEq] at H
 obtain ⟨rfl,rfl⟩:=H
 go_enter Try.func75,Try.ntmps75
 try go_wp2_with (first|((with_reducible refine gate_dst (N:=1) rfl ?_);refine box_event ?hg (N:=1) ?hd (cs:=#[.slice A0_0 l0_0.length c0_0,.int .i64 a0_1]) (t:=47) ?hr ?_;(case hd=>rfl);(case hg=>rfl);(case hr=>first|(go_simp;done)|(go_simp;rfl));intro Be hg w3 hbox hb;have n0_:=Am (bP (by repeat (first|(with_reducible first|exact HB.out|apply oA|apply pN|apply o1)|exact HB.out)) hb);have n1_:=Am (hbox);have n2_:=Am ((by rw [hg];exact (bZ (by repeat (first|(with_reducible first|exact HB.out|apply oA|apply pN|apply o1)|exact HB.out))):w.heap.size≤Be));have n3_:=Am ((by rw [hg];exact (bZ (by repeat (first|(with_reducible first|exact HB.out|apply oA|apply pN|apply o1)|exact HB.out))):w.heap.size≤Be));clear HB;revert n0_ n1_ n2_ n3_;intro HB Ba Bj Bf;clear hb hbox hg)|((with_reducible refine gate_dst (N:=2) rfl ?_);refine box_event ?hg (N:=2) ?hd (cs:=#[.slice none 0 0,.int .i64 0]) (t:=47) ?hr ?_;(case hd=>rfl);(case hg=>rfl);(case hr=>first|(go_simp;done)|(go_simp;rfl));intro Bb hg w4 hbox hb;have n0_:=Am (bX Ba.out hb);have n1_:=Am (bP (by repeat (first|(with_reducible first|exact HB.out|apply oA|apply pN|apply o1|refine bS ?_ Bf.out)|exact HB.out)) hb);have n2_:=Am (hbox);have n3_:=Am ((by rw [hg];exact (bZ (by repeat (first|(with_reducible first|exact HB.out|apply oA|apply pN|apply o1|refine bS ?_ Bf.out)|exact HB.out))):w.heap.size≤Bb));have n4_:=Am ((by rw [hg];exact (bZ (by repeat (first|(with_reducible first|exact HB.out|apply oA|apply pN|apply o1|refine bS ?_ Bf.out)|exact HB.out))):w.heap.size≤Bb));have n5_:=Am ((nL Ba.out hg));have n6_:=Am ((nG Ba.out hg));clear Ba HB;revert n0_ n1_ n2_ n3_ n4_ n5_ n6_;intro Ba HB Bc Bk Bh Bd Bg;clear hb hbox hg))
 have n0_:=Am (bD Ba.out)
 have n1_:=Am (bD Bc.out)
 have n2_:=Am (o1 HB.out)
 clear Ba
 clear Bc
 clear HB
 have Ba:=n0_
 have Bc:=n1_
 have HB:=n2_
 clear n0_ n1_ n2_
 refine start_ (n:=7) (S:=fun w'=>w'.cell? ⟨Be,0,none⟩=some (.slice A0_0 l0_0.length c0_0)∧w'.cell? ⟨Be,1,none⟩=some (.int .i64 a0_1)) (ds:=[]) #[false,false,false,false,false,false,false] (by kernel_rfl) rfl rfl ⟨(bC Ba.out 0).trans rfl,(bC Ba.out 1).trans rfl⟩ (fun hHeld=>?_)
 generalize w4.drew=w5 at Ba Bc HB hHeld ⊢
 refine pure_ (i:=0) (N:=some 3) (v:=?_) (a':=?_) #[true,false,false,false,false,false,false] rfl rfl (by kernel_rfl) (fun _ _ _ h=>h) (Or.inl ⟨by rfl,?_⟩) ?_ ?_
 rotate_left;(intro w';go_simp;with_reducible rfl)
 rotate_left;(simp only [Act.put,lA,lZ,lS,iw,jw];rfl)
 refine pure_ (i:=3) (N:=some 6) (v:=?_) (a':=?_) #[true,false,false,true,false,false,false] rfl rfl (by kernel_rfl) (fun _ _ _ h=>h) (Or.inl ⟨by rfl,?_⟩) ?_ ?_
 rotate_left;(intro w';go_simp;with_reducible rfl)
 rotate_left;(simp only [Act.put,lA,lZ,lS,iw,jw];rfl)
 refine take_ (i:=1) (N:=some 4) (v:=?_) (a':=?_) #[true,true,false,true,false,false,false] rfl rfl (by kernel_rfl) (fun _ _ _ h=>h) (Or.inl ⟨by rfl,?_⟩) hHeld ?_ ?_
 rotate_left;(rintro w' ⟨s0,s1⟩;go_simp;with_reducible rfl)
 rotate_left;(simp only [Act.put,lA,lZ,lS,iw,jw];rfl)
 refine take_ (i:=4) (N:=some 7) (v:=?_) (a':=?_) #[true,true,false,true,true,false,false] rfl rfl (by kernel_rfl) (fun _ _ _ h=>h) (Or.inl ⟨by rfl,?_⟩) hHeld ?_ ?_
 rotate_left;(rintro w' ⟨s0,s1⟩;go_simp;with_reducible rfl)
 rotate_left;(simp only [Act.put,lA,lZ,lS,iw,jw];rfl)
 refine one_ (i:=2) (N:=some 5) #[true,true,true,true,true,false,false] rfl rfl (by kernel_rfl) (by decide) (fun K hK=>?_)
 refine goes_ Try.func103 (by kernel_rfl) rfl #[.slice A0_0 l0_0.length c0_0] (by rfl) rfl rfl (by (try simp only [lM,lC,lN]);first|done|rfl|(simp only [lD,lT];rfl)) ?_
 with_reducible refine (impl_Task_103.calls _ _ l0_0 t196 _ ?side1 ?side2 A2.out).mono ?_
 (case side1=>repeat (first|exact (cB HR0_0.out HB.out)|(with_reducible refine cA ?_ _)|(with_reducible refine cN ?_ _)|(with_reducible refine cD ?_)))
 (case side2=>exact HC0_0.out)
 rintro e w6 ⟨v197,rfl,ho0,hb⟩
 refine ⟨_,rfl,?_⟩
 have n0_:=Am (Kd.R_lower ho0 (bZ (by repeat (first|(with_reducible first|exact HB.out|apply oA|apply pN|apply o1|refine bS ?_ Bf.out|refine bS ?_ Bh.out)|exact HB.out))))
 have n1_:=Am (bX Ba.out hb)
 have n2_:=Am (bX Bc.out hb)
 have n3_:=Am (bP (by repeat (first|(with_reducible first|exact HB.out|apply oA|apply pN|apply o1|refine bS ?_ Bf.out|refine bS ?_ Bh.out)|exact HB.out)) hb)
 clear Ba
 clear Bc
 clear HB
 have Bi:=n0_
 have Ba:=n1_
 have Bc:=n2_
 have HB:=n3_
 clear n0_ n1_ n2_ n3_
 (try clear hb)
 (try clear hb2)
 (try clear hk)
 (try clear hi)
 (try clear ho0)
 obtain ⟨Ao7,co7,eo7⟩:=Kd.R_slice Bi.out
 (first|subst eo7|(injection eo7 with f1_ f2_ f3_;have f4_:=f1_.symm;have f5_:=f3_.symm;clear f1_ f2_ f3_;subst f4_;subst f5_))
 refine hK.out _ _ ⟨(bC Ba.out 0).trans rfl,(bC Ba.out 1).trans rfl⟩ (fun hHeld=>?_)
 clear hK K
 refine norm_ (by show Act.put _ (some 5) _=_;simp only [Act.put,lA,lZ,lS,iw,jw];rfl) ?_
 refine pure_ (i:=5) (N:=some 8) (v:=?_) (a':=?_) #[true,true,true,true,true,true,false] rfl rfl (by kernel_rfl) (fun _ _ _ h=>h) (Or.inl ⟨by rfl,?_⟩) ?_ ?_
 rotate_left;(intro w';go_simp;with_reducible rfl)
 rotate_left;(simp only [Act.put,lA,lZ,lS,iw,jw];rfl)
 refine one_ (i:=6) (N:=none) #[true,true,true,true,true,true,true] rfl rfl (by kernel_rfl) (by decide) (fun K hK=>?_)
 have hs8:=cz0 Bc.out
 have hfs8:=bF Bc.out 0
 have hns8_0:=Bd.out
 have hms8_0:=Bg.out
 have hs9:=cz1 Bc.out
 have hfs9:=bF Bc.out 1
 have hns9_0:=Bd.out
 have hms9_0:=Bg.out
 refine skip_ (w1:=?_) (by rfl) rfl ?_ ?_
 rotate_left;(go_simp;rfl)
 refine hK.out _ _ ⟨((cell_far (p:=⟨Bb,_,none⟩) Bd.out _).trans (((cell_far (p:=⟨Bb,_,none⟩) Bd.out _).trans (hHeld.1)))),((cell_far (p:=⟨Bb,_,none⟩) Bd.out _).trans (((cell_far (p:=⟨Bb,_,none⟩) Bd.out _).trans (hHeld.2))))⟩ (fun hHeld=>?_)
 clear hK K
 refine done_ (by kernel_rfl) ?_
 try go_wp2
 refine bodyPost_ret (results_cell_row rfl _ _ Bb 47 #[.slice Ao7 t196.length co7,.int .i64 a0_1] (0,0) _ rfl (by (with_reducible repeat (first|refine bN ?_ _|refine bD ?_|refine bA ?_ _));refine blk_put (cs:=#[.slice Ao7 t196.length co7,.int .i64 0]) ?_ 1 _ rfl;(with_reducible repeat (first|refine bN ?_ _|refine bD ?_|refine bA ?_ _));refine blk_put (cs:=#[.slice none 0 0,.int .i64 0]) ?_ 0 _ rfl;(with_reducible repeat (first|refine bN ?_ _|refine bD ?_|refine bA ?_ _));exact Bc.out) Try.underlying47 rfl (by kernel_rfl)) rfl ?_
 exact ⟨_,by first|rfl|(simp [errW_none,errW_some] <;> rfl)|(simp [*,errW_none,errW_some] <;> rfl),by (with_reducible repeat (first|apply rA|apply rN|apply rD));exact rM (rF (p:=⟨Bb,1,none⟩) (rF (p:=⟨Bb,0,none⟩) (rT Bi.out Bc.out (by decide)) (fun _ hk=>hk.2) (.slice Ao7 t196.length co7)) (fun _ hk=>hk.2) (.int .i64 a0_1)) (fun _ hk=>trivial),by repeat (first|(with_reducible first|exact HB.out|apply oA|apply pN|apply o1|refine bS ?_ Bf.out|refine bS ?_ Bh.out)|exact HB.out)⟩

/-! ### sDel81: function 81 -/
theorem zero86_ (w : World) : (zeroValue 86).run Try.prog w = .ok (.agg #[.int .i64 0, .int .i64 0, .int .i64 0, .bool false]) w := by
 have h := info86
 obtain ⟨i, hi, he⟩ := Option.map_eq_some_iff.1 h
 simp only [Prod.mk.injEq] at he
 have ht : (typeInfo 86).run Try.prog w = .ok i w := by
  unfold typeInfo
  simp [hi]
 simp [zeroValue, ht, he.1]
theorem zc86_ : (Builtin.zeroCells (Value.agg #[.int .i64 0, .int .i64 0, .int .i64 0, .bool false]).cells 1).toList = [.int .i64 0, .int .i64 0, .int .i64 0, .bool false] := by
 simp [Builtin.zeroCells, Value.cells]
 first|rfl|(apply List.ext_getElem;· simp;· intro i h1 h2;simp at h1;rcases (by omega : i = 0 ∨ i = 1 ∨ i = 2 ∨ i = 3) with rfl|rfl|rfl|rfl <;> simp)
set_option maxHeartbeats 2000000 in
set_option maxRecDepth 100000 in
theorem sDel81.calls0 {base g n c : Nat} {ok : Nat → Prop} {xs : List S86} (k : Nat) (W : World) (HO : Kd.R k86 86 W base ok (.slice (some ⟨g, 0, none⟩) n c) xs) (hk : k < n) (hb : base ≤ W.heap.size) :
  Calls Try.prog 81 #[.slice (some ⟨g, 0, none⟩) n c, .int .i64 (k : Int), .int .i64 ((k : Int) + 1)] W fun e w' => e = .returned (.slice (some ⟨g, 0, none⟩) (n - 1) c) ∧ Kd.R k86 86 w' base ok (.slice (some ⟨g, 0, none⟩) (n - 1) c) (xs.eraseIdx k) ∧ W.grownBy w' (some g) ∧ Below base W w' := by
 have hu86 := Try.underlying86
 have hu45 := Try.underlying45
 have hr := Kd.R_reads' HO
 have HR := Am HO
 have hc := hr.2.1
 have HBase := Am hb
 clear HO hr hb
 have e0 : (0 : Int) ≤ (k : Int) := by omega
 have e1 : (k : Int) ≤ (k : Int) + 1 := by omega
 have e2 : (k : Int) + 1 ≤ (n : Int) := by omega
 have e3 : (n : Int) ≤ (c : Int) := by omega
 have e4 : ((k : Int) == (k : Int) + 1) = false := by simp;omega
 have e5 : ((k : Int) + 1).toNat = k + 1 := by omega
 have e6 : k ≤ c := by omega
 have e7 : k + 1 ≤ n := by omega
 have e8 : k + 1 ≤ c := by omega
 have e9 : (0 : Int) ≤ (k : Int) + 1 := by omega
 go_enter Try.func81, Try.ntmps81
 go_wp2_with fail
 refine start_ (n := 8) (S := fun _ => True) (ds := []) (bQ 8 0) (by kernel_rfl) rfl rfl trivial (fun hHeld => ?_)
 refine pure_ (i := 0) (N := some 20) (v := ?_) (a' := ?_) (bQ 8 1) rfl rfl (by kernel_rfl) (fun _ _ _ h => h) (Or.inl ⟨by rfl, ?_⟩) ?_ ?_
 rotate_left
 ·intro w';go_simp;with_reducible rfl
 rotate_left
 ·simp only [Act.put, lA, lZ, lS, iw, jw];rfl
 refine pure_ (i := 1) (N := some 21) (v := ?_) (a' := ?_) (bQ 8 3) rfl rfl (by kernel_rfl) (fun _ _ _ h => h) (Or.inl ⟨by rfl, ?_⟩) ?_ ?_
 rotate_left
 ·intro w';go_simp;with_reducible rfl
 rotate_left
 ·simp only [Act.put, lA, lZ, lS, iw, jw];rfl
 refine pure_ (i := 3) (N := some 23) (v := ?_) (a' := ?_) (bQ 8 11) rfl rfl (by kernel_rfl) (fun _ _ _ h => h) (Or.inl ⟨by rfl, ?_⟩) ?_ ?_
 rotate_left
 ·intro w';go_simp;with_reducible rfl
 rotate_left
 ·simp only [Act.put, lA, lZ, lS, iw, jw];rfl
 refine pure_ (i := 4) (N := some 24) (v := ?_) (a' := ?_) (bQ 8 27) rfl rfl (by kernel_rfl) (fun _ _ _ h => h) (Or.inl ⟨by rfl, ?_⟩) ?_ ?_
 rotate_left
 ·intro w';go_simp;with_reducible rfl
 rotate_left
 ·simp only [Act.put, lA, lZ, lS, iw, jw];rfl
 refine pure_ (i := 2) (N := some 22) (v := ?_) (a' := ?_) (bQ 8 31) rfl rfl (by kernel_rfl) (fun _ _ _ h => h) (Or.inl ⟨by rfl, ?_⟩) ?_ ?_
 rotate_left
 ·intro w';go_simp;with_reducible rfl
 rotate_left
 ·simp only [Act.put, lA, lZ, lS, iw, jw];rfl
 refine pure_ (i := 5) (N := some 25) (v := ?_) (a' := ?_) (bQ 8 63) rfl rfl (by kernel_rfl) (fun _ _ _ h => h) (Or.inl ⟨by rfl, ?_⟩) ?_ ?_
 rotate_left
 ·intro w';go_simp;with_reducible rfl
 rotate_left
 ·simp only [Act.put, lA, lZ, lS, iw, jw];rfl
 refine one_ (i := 6) (N := some 26) (bQ 8 127) rfl rfl (by kernel_rfl) (by decide) (fun K hK => ?_)
 refine Kd.R_delete_step k86 (w0 := W) base (by rfl) (.tmp 22) (.tmp 25) 45 86 rfl Try.underlying45 (by kernel_rfl) (g := g) (n := n) (c := c) (k := k) (A := if c = k + 1 then some ⟨g, 0, none⟩ else some ⟨g, (k + 1) * 4, none⟩) (c2 := c - (k + 1)) (by rfl) (by rfl) (by simp [Addr.add];rfl) rfl (rD HR.out) hk (Below.mono (o1 (Below.refl _ _)) HBase.out) (by simpa using HBase.out) ?_
 intro w1 hr1 hb1 hg1
 refine hK.out _ _ trivial (fun hHeld => ?_)
 clear hK K
 refine norm_ (a' := ?_) ?_ ?_
 rotate_left
 ·show Act.put _ (some 26) _ = _
  simp only [Act.put, lA, lZ, lS, iw, jw]
  rfl
 refine pure_ (i := 7) (N := some 0) (v := ?_) (a' := ?_) (bQ 8 255) rfl rfl (by kernel_rfl) (fun _ _ _ h => h) (Or.inl ⟨by rfl, ?_⟩) ?_ ?_
 rotate_left
 ·intro w';go_simp;with_reducible rfl
 rotate_left
 ·simp only [Act.put, lA, lZ, lS, iw, jw];rfl
 refine done_ (by kernel_rfl) ?_
 have HD := Am hr1
 have HGa := Am hg1
 have room := fun q hq => R_cells_room hr1 q hq
 have hcl : ∀ ty, (Builtin.clear_ #[45] ty #[.slice (some ⟨g, (n - 1) * 4, none⟩) 1 (c - (n - 1))]).run Try.prog w1 = .ok (.tuple #[]) (w1.setCells g ((n - 1) * 4) [.int .i64 0, .int .i64 0, .int .i64 0, .bool false]) := fun ty =>
  run_clear_one w1 45 86 ty _ [.int .i64 0, .int .i64 0, .int .i64 0, .bool false] Try.underlying45 zero86_ zc86_ (by simp [Value.oneCell']) g _ _ (fun j hj => (room _ (by show (n - 1) * 4 + j < c * 4;simp at hj;omega)).1) (fun j hj => (room _ (by show (n - 1) * 4 + j < c * 4;simp at hj;omega)).2)
 obtain ⟨hr2, hg2⟩ := R_beyond hr1 [.int .i64 0, .int .i64 0, .int .i64 0, .bool false] (off := (n - 1) * 4) (Nat.le_refl _) (by show (n - 1) * 4 + 4 ≤ c * 4;omega)
 have HD2 := Am hr2
 have HG2 := Am hg2
 have hcl' : ∀ ty, (Builtin.clear_ #[45] ty #[.slice (some ⟨g, (n - 1) * 4, none⟩) (n - (n - 1)) (c - (n - 1))]).run Try.prog w1 = .ok (.tuple #[]) (w1.setCells g ((n - 1) * 4) [.int .i64 0, .int .i64 0, .int .i64 0, .bool false]) := by
  rw [show n - (n - 1) = 1 by omega]
  exact hcl
 clear hcl
 clear hr1 hb1 hg1 hr2 hg2 room
 go_wp2
 all_goals
  go_ret
  have HW : W.grownBy (w1.setCells g ((n - 1) * 4) [.int .i64 0, .int .i64 0, .int .i64 0, .bool false]) (some g) := ⟨HG2.out.os.trans HGa.out.os, HG2.out.tape.trans HGa.out.tape, HG2.out.output.trans HGa.out.output, Nat.le_trans HGa.out.size HG2.out.size, fun q hq hne => (HG2.out.block q (Nat.lt_of_lt_of_le hq HGa.out.size) hne).trans (HGa.out.block q hq hne)⟩
  refine ⟨rfl, ?_, HW, (Below.mono (Below.refl W.heap.size W) HBase.out).grown HW HBase.out (fun q hq => by injection hq with hq;subst hq;exact Kd.R_base HR.out _ (by simp [Value.ownBlock]))⟩
  first
 |exact HD2.out
 |(have z := HD2.out;simp only [‹c = k + 1›] at z;exact z)
set_option maxHeartbeats 2000000 in
theorem sDel81.calls {base g n c:Nat} {ok:Nat → Prop} {xs:List S86} {w0 W:World} (i j:Int) (k:Nat) (HO:Kd.R k86 86 W base ok (.slice (some ⟨g,0,none⟩) n c) xs) (hi:i=(k:Int)) (hj:j=(k:Int) + 1) (hk:k<n) (HB:Below base w0 W) (hb:base≤W.heap.size) :
  Calls Try.prog 81 #[.slice (some ⟨g,0,none⟩) n c,.int .i64 i,.int .i64 j] W fun e w'=>e=.returned (.slice (some ⟨g,0,none⟩) (n - 1) c)∧Kd.R k86 86 w' base ok (.slice (some ⟨g,0,none⟩) (n - 1) c) (xs.eraseIdx k)∧Below base w0 w'∧W.grownBy w' (some g):=by
 subst hi hj
 refine (sDel81.calls0 k W HO hk hb).mono ?_
 rintro e w' ⟨rfl,h1,h2,h3⟩
 exact ⟨rfl,h1,HB.grown h2 hb (fun q hq=>by injection hq with hq;subst hq;exact Kd.R_base HO _ (by simp [Value.ownBlock])),h2⟩

end Go.Proofs.Ytehekikjadjdaaa.PFnExactQueueLess
