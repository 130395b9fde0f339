/- Proved here, without a condition beyond those that each theorem states: what the Go functions named below do is what the plain functions of the same names say. Written by xprint.py, a program of this session. -/
import Derived.Test.YtpdfkbggaihfpaaPFnPagesSetx0
namespace Go.Proofs.Ytpdfkbggaihfpaa.PFnPagesSet
open Go.RowKit Go.Proofs.YtpdfkbggaihfpaaW.PrintWords Go.Proofs.YtpdfkbggaihfpaaW.PrintLast Go.Proofs.YtpdfkbggaihfpaaW.PrintMore
attribute [local go_sem] max2_int min2_int max_two min_two max_three min_three max_four min_four   -- for this text's walks alone
set_option linter.unusedVariables false
set_option linter.unusedSimpArgs false

attribute [local go_sem ↓] isSome_setCell_
/-! ### impl_Pages_clone: function 45 -/
def impl_Pages_clone.f (l0_0 : List ByteArray) (l0_1 : List Int) : Option (List ByteArray × List Int) := (some (([] : List ByteArray) : List ByteArray)).bind fun y235 => (if y235.length + l0_0.length < 8796093022208 then ((some (([] : List Int) : List Int)).bind fun y241 => (if y241.length + l0_1.length < 17592186044416 then (some ((y235 ++ l0_0), (y241 ++ l0_1))) else (none))) else (none))
def impl_Pages_clone.T1 : Bool × List (List Nat × List Nat) := (true, [([], []), ([], []), ([1], [1]), ([0, 2], [0, 2]), ([], []), ([], []), ([5], [5]), ([4, 6, 3], [4, 6]), ([3, 7], [3, 7]), ([8, 7, 0, 1, 2, 3, 4, 5, 6, 7, 8], [8])])
def impl_Pages_clone.B1 : List Nat := [0, 0, 2, 7, 0, 0, 32, 127, 255, 511]
theorem impl_Pages_clone.tab1 : rtab .any (opsOf Try.f45 1) = impl_Pages_clone.T1 := by kernel_rfl
theorem impl_Pages_clone.bits1 : waitsOk impl_Pages_clone.T1.2 impl_Pages_clone.B1 = true := by kernel_rfl
abbrev z45q0 : Array Bool := bQ 10 0
abbrev z45q1 : Array Bool := bQ 10 2
abbrev z45q2 : Array Bool := bQ 10 34
abbrev z45q3 : Array Bool := bQ 10 38
abbrev z45q4 : Array Bool := bQ 10 102
abbrev z45q5 : Array Bool := bQ 10 127
abbrev z45q6 : Array Bool := bQ 10 103
abbrev z45q7 : Array Bool := bQ 10 118
abbrev z45q8 : Array Bool := bQ 10 111
abbrev z45q9 : Array Bool := bQ 10 119
abbrev z45q10 : Array Bool := bQ 10 255
abbrev z45q11 : Array Bool := bQ 10 511
abbrev z45q12 : Array Bool := bQ 10 1023
set_option maxHeartbeats 2000000 in
set_option maxRecDepth 100000 in
theorem impl_Pages_clone.calls (A0_0:Option Addr) (c0_0:Nat) (l0_0:List ByteArray) (A0_1:Option Addr) (c0_1:Nat) (l0_1:List Int) (r1:List ByteArray) (r2:List Int) (w:World) (hr0_0:Kd.C Kd.string w A0_0 l0_0.length l0_0) (hc0_0:l0_0.length≤c0_0) (hr0_1:Kd.C (Kd.int .i64) w A0_1 l0_1.length l0_1) (hc0_1:l0_1.length≤c0_1) (h:impl_Pages_clone.f l0_0 l0_1=some (r1,r2)) :
  Calls Try.prog 45 #[.agg #[.slice A0_0 l0_0.length c0_0,.slice A0_1 l0_1.length c0_1]] w fun e w'=>∃ v0_ v1_:Value,e=.returned (.agg #[v0_,v1_])∧Kd.R Kd.string 9 w' w.heap.size (fun _=>True) v0_ r1∧Kd.R (Kd.int .i64) 3 w' w.heap.size (fun _=>True) v1_ r2∧Below w.heap.size w w':=by
 have hu26:=Try.underlying26
 have HR0_0:=Am hr0_0
 have HC0_0:=Am hc0_0
 clear hr0_0 hc0_0
 have HR0_1:=Am hr0_1
 have HC0_1:=Am hc0_1
 clear hr0_1 hc0_1
 have HB:=Am (bJ w.heap.size w)
 have H:((some (([]:List ByteArray):List ByteArray)).bind fun y235=>(if y235.length + l0_0.length<8796093022208 then ((some (([]:List Int):List Int)).bind fun y241=>(if y241.length + l0_1.length<17592186044416 then (some ((y235 ++ l0_0),(y241 ++ l0_1))) else (none))) else (none)))=some (r1,r2):=h
 clear h
 obtain ⟨y235,hy235⟩:∃ y_:List ByteArray,y_=(([]:List ByteArray)):=⟨_,rfl⟩
 replace H:(if y235.length + l0_0.length<8796093022208 then ((some (([]:List Int):List Int)).bind fun y241=>(if y241.length + l0_1.length<17592186044416 then (some ((y235 ++ l0_0),(y241 ++ l0_1))) else (none))) else (none))=some (r1,r2):=by first|(rw [hy235];with_reducible exact H)|(have H2_:=(Option.bind_some _ _).symm.trans H;rw [hy235];with_reducible exact H2_)|(have H2_:=(Option.bind_some _ _).symm.trans H;with_reducible exact H2_)|with_reducible exact H|(rw [hy235];exact H)|exact H
 have Ny235:=Am hy235
 clear hy235
 by_cases c2:y235.length + l0_0.length<8796093022208
 rotate_left
 ·rw [if_neg c2] at H
  exact absurd H (by simp)

 rw [if_pos c2] at H
 have LMc2:=Am c2
 clear c2
 obtain ⟨y238,hy238⟩:∃ y_:List ByteArray,y_=(y235 ++ l0_0):=⟨_,rfl⟩
 replace H:((some (([]:List Int):List Int)).bind fun y241=>(if y241.length + l0_1.length<17592186044416 then (some (y238,(y241 ++ l0_1))) else (none)))=some (r1,r2):=by first|(rw [hy238];with_reducible exact H)|(have H2_:=(Option.bind_some _ _).symm.trans H;rw [hy238];with_reducible exact H2_)|(have H2_:=(Option.bind_some _ _).symm.trans H;with_reducible exact H2_)|with_reducible exact H|(rw [hy238];exact H)|exact H
 have Ny238:=Am hy238
 clear hy238
 obtain ⟨y241,hy241⟩:∃ y_:List Int,y_=(([]:List Int)):=⟨_,rfl⟩
 replace H:(if y241.length + l0_1.length<17592186044416 then (some (y238,(y241 ++ l0_1))) else (none))=some (r1,r2):=by first|(rw [hy241];with_reducible exact H)|(have H2_:=(Option.bind_some _ _).symm.trans H;rw [hy241];with_reducible exact H2_)|(have H2_:=(Option.bind_some _ _).symm.trans H;with_reducible exact H2_)|with_reducible exact H|(rw [hy241];exact H)|exact H
 have Ny241:=Am hy241
 clear hy241
 by_cases c3:y241.length + l0_1.length<17592186044416
 rotate_left
 ·rw [if_neg c3] at H
  exact absurd H (by simp)
 rw [if_pos c3] at H
 have LMc3:=Am c3
 clear c3
 obtain ⟨y244,hy244⟩:∃ y_:List Int,y_=(y241 ++ l0_1):=⟨_,rfl⟩
 replace H:(some (y238,y244))=some (r1,r2):=by first|(rw [hy244];with_reducible exact H)|(have H2_:=(Option.bind_some _ _).symm.trans H;rw [hy244];with_reducible exact H2_)|(have H2_:=(Option.bind_some _ _).symm.trans H;with_reducible exact H2_)|with_reducible exact H|(rw [hy244];exact H)|exact H
 have Ny244:=Am hy244
 clear hy244
 simp only [Option.some.injEq,Prod.mk.injEq] at H
 obtain ⟨rfl,rfl⟩:=H
 go_enter Try.func45,Try.ntmps45
 try go_wp2_with (first|((with_reducible refine gD (N:=1) rfl ?_);refine bI ?hg (N:=1) ?hd (cs:=#[.slice A0_0 l0_0.length c0_0,.slice A0_1 l0_1.length c0_1]) (t:=26) ?hr ?_;(case hd=>rfl);(case hg=>rfl);(case hr=>first|(go_simp;done)|(go_simp;rfl));intro Be hg w4 hbox hb;have n0_:=Am (bP (by repeat (first|(with_reducible first|exact HB.out|apply oA|apply pN|apply o1)|exact HB.out)) hb);have n1_:=Am (hbox);have n2_:=Am ((by rw [hg];exact (bZ (by repeat (first|(with_reducible first|exact HB.out|apply oA|apply pN|apply o1)|exact HB.out))):w.heap.size≤Be));have n3_:=Am ((by rw [hg];exact (bZ (by repeat (first|(with_reducible first|exact HB.out|apply oA|apply pN|apply o1)|exact HB.out))):w.heap.size≤Be));clear HB;revert n0_ n1_ n2_ n3_;intro HB Ba Bm Bd;clear hb hbox hg)|((with_reducible refine gD (N:=2) rfl ?_);refine bI ?hg (N:=2) ?hd (cs:=#[.slice none 0 0,.slice none 0 0]) (t:=26) ?hr ?_;(case hd=>rfl);(case hg=>rfl);(case hr=>first|(go_simp;done)|(go_simp;rfl));intro Bc hg w5 hbox hb;have n0_:=Am (bX Ba.out hb);have n1_:=Am (bP (by repeat (first|(with_reducible first|exact HB.out|apply oA|apply pN|apply o1|refine bS ?_ Bd.out)|exact HB.out)) hb);have n2_:=Am (hbox);have n3_:=Am ((by rw [hg];exact (bZ (by repeat (first|(with_reducible first|exact HB.out|apply oA|apply pN|apply o1|refine bS ?_ Bd.out)|exact HB.out))):w.heap.size≤Bc));have n4_:=Am ((by rw [hg];exact (bZ (by repeat (first|(with_reducible first|exact HB.out|apply oA|apply pN|apply o1|refine bS ?_ Bd.out)|exact HB.out))):w.heap.size≤Bc));have n5_:=Am ((nL Ba.out hg));have n6_:=Am ((nG Ba.out hg));clear Ba HB;revert n0_ n1_ n2_ n3_ n4_ n5_ n6_;intro Ba HB Bb Bn Bf Bj Bk;clear hb hbox hg))
 have n0_:=Am (bD Ba.out)
 have n1_:=Am (bD Bb.out)
 have n2_:=Am (o1 HB.out)
 clear Ba
 clear Bb
 clear HB
 have Ba:=n0_
 have Bb:=n1_
 have HB:=n2_
 clear n0_ n1_ n2_
 refine start_ (n:=10) (S:=fun w'=>w'.cell? ⟨Be,0,none⟩=some (.slice A0_0 l0_0.length c0_0)∧w'.cell? ⟨Be,1,none⟩=some (.slice A0_1 l0_1.length c0_1)) (ds:=[]) z45q0 (by kernel_rfl) rfl rfl ⟨(bC Ba.out 0).trans rfl,(bC Ba.out 1).trans rfl⟩ (fun hHeld=>?_);refine with_st impl_Pages_clone.tab1 impl_Pages_clone.bits1 (fun _ _ _ _ _ h=>h) (fun HT_=>?_)
 generalize w5.drew=w6 at Ba Bb HB hHeld ⊢
 refine pS 1 4 z45q1 HT_ rfl rfl (by kernel_rfl) (by rfl) (by intro w';go_simp;with_reducible rfl) (by simp only [Act.put,lA,lZ,lS,iw,jw];rfl) ?_
 refine pS 5 8 z45q2 HT_ rfl rfl (by kernel_rfl) (by rfl) (by intro w';go_simp;with_reducible rfl) (by simp only [Act.put,lA,lZ,lS,iw,jw];rfl) ?_
 refine tS 2 5 z45q3 HT_ hHeld rfl rfl (by kernel_rfl) (by rfl) (by rintro w' ⟨s0,s1⟩;go_simp;with_reducible rfl) (by simp only [Act.put,lA,lZ,lS,iw,jw];rfl) ?_
 refine tS 6 9 z45q4 HT_ hHeld rfl rfl (by kernel_rfl) (by rfl) (by rintro w' ⟨s0,s1⟩;go_simp;with_reducible rfl) (by simp only [Act.put,lA,lZ,lS,iw,jw];rfl) ?_
 refine join_ (σ:=Value × Value × Value) 3 z45q5 (fun s_=>[(3,s_.1),(6,s_.2.1),(7,s_.2.2)]) (fun s_ w'=>(w'.cell? ⟨Be,0,none⟩=some (.slice A0_0 l0_0.length c0_0)∧w'.cell? ⟨Be,1,none⟩=some (.slice A0_1 l0_1.length c0_1))∧(Kd.R Kd.string 9 w' w.heap.size (fun _=>True) s_.2.1 y238)∧(Kd.R (Kd.int .i64) 3 w' w.heap.size (fun _=>True) s_.2.2 y241)∧(w'.heap[Be]?=some (.cells #[.slice A0_0 l0_0.length c0_0,.slice A0_1 l0_1.length c0_1] 26 (0,0)))∧(w'.heap[Bc]?=some (.cells #[.slice none 0 0,.slice none 0 0] 26 (0,0)))∧(Below w.heap.size w w')) ?_ ?_
 rotate_left
 ·intro hCont
  refine two_ (i:=0) (j:=4) (Ni:=some 3) (Nj:=some 7) z45q6 z45q7 rfl rfl rfl rfl (two_of HT_.out (by kernel_rfl)) (by decide) (by decide) (fun K hK=>?_) (fun K hK=>?_)
  ·skip
   refine Kd.R_lit_step Kd.string _ 9 ?hg (N:=3) ?hd (xs:=([]:List ByteArray)) (inner:=[]) (ok:=fun _=>True) (okp:=fun _=>True) ?hr ?hp (fun _ hk=>hk) trivial (bJ _ _) (nR _) (by simp) ?_;(case hd=>rfl);(case hg=>rfl);(case hr=>first|(go_simp;done)|(go_simp;rfl));(case hp=>exact (Reps.none _ _))
   intro v236 w7 ho8 hb hg_ hnew_
   clear hg_ hnew_
   (first|rw [← Ny235.out] at ho8|(simp only [Int.reduceToNat] at ho8;rw [← Ny235.out] at ho8))
   have n0_:=Am (rW ho8 (bZ (by repeat (first|(with_reducible first|exact HB.out|apply oA|apply pN|apply o1|refine bS ?_ Bd.out|refine bS ?_ Bf.out)|exact HB.out))))
   have n1_:=Am (bX Ba.out hb)
   have n2_:=Am (bX Bb.out hb)
   have n3_:=Am (bP (by repeat (first|(with_reducible first|exact HB.out|apply oA|apply pN|apply o1|refine bS ?_ Bd.out|refine bS ?_ Bf.out)|exact HB.out)) hb)
   clear Ba
   clear Bb
   clear HB
   have Bh:=n0_
   have Ba:=n1_
   have Bb:=n2_
   have HB:=n3_
   clear n0_ n1_ n2_ n3_
   clear hb ho8
   refine hK.out _ _ ⟨(bC Ba.out 0).trans rfl,(bC Ba.out 1).trans rfl⟩ (fun hHeld=>?_)
   clear hK K
   refine norm_ (by show Act.put _ (some 3) _=_;simp only [Act.put,lA,lZ,lS,iw,jw];rfl) ?_
   refine two_ (i:=3) (j:=4) (Ni:=some 6) (Nj:=some 7) z45q8 z45q9 rfl rfl rfl rfl (two_of HT_.out (by kernel_rfl)) (by decide) (by decide) (fun K hK=>?_) (fun K hK=>?_)
   ·skip
    refine Kd.R_append_rows_step Kd.string (w0:=w) w.heap.size (by rfl) (.tmp 3) (.tmp 5) 23 9 (.string ⟨#[]⟩) 16 rfl Try.underlying23 info9 rfl (by decide) (by omega) v236 y235 l0_0 _ _ _ (fun _=>True) (fun _=>False) rfl rfl ?aO ?aR (fun _ _ h=>h) (fun _ h=>h.elim) ?aF ?aB ?aS ?aL ?_
    (case aR=>repeat (first|exact (cB HR0_0.out HB.out)|(with_reducible refine cA ?_ _)|(with_reducible refine cN ?_ _)|(with_reducible refine cD ?_)))
    (case aB=>exact (by repeat (first|(with_reducible first|exact HB.out|apply oA|apply pN|apply o1|refine bS ?_ Bd.out|refine bS ?_ Bf.out)|exact HB.out)))
    (case aF=>exact (fun _ _=>trivial))
    (case aO=>exact (rL Bh.out))
    (case aS=>exact (bZ (by repeat (first|(with_reducible first|exact HB.out|apply oA|apply pN|apply o1|refine bS ?_ Bd.out|refine bS ?_ Bf.out)|exact HB.out))))
    (case aL=>have:=LMc2.out;omega)
    intro v239 w9 ho hb hg hat
    rw [← Ny238.out] at ho
    have n0_:=Am (bG (g:=Be) (o:=.cells #[.slice A0_0 l0_0.length c0_0,.slice A0_1 l0_1.length c0_1] 26 (0,0)) (bL Ba.out) hg (rE Bh.out Ba.out (by decide)))
    have n1_:=Am (bG (g:=Bc) (o:=.cells #[.slice none 0 0,.slice none 0 0] 26 (0,0)) (bL Bb.out) hg (rE Bh.out Bb.out (by decide)))
    have n2_:=Am (hb)
    have n3_:=Am (ho)
    clear Ba
    clear Bb
    clear HB
    clear Bh
    have Ba:=n0_
    have Bb:=n1_
    have HB:=n2_
    have Bi:=n3_
    clear n0_ n1_ n2_ n3_
    clear ho hb hg hat
    refine hK.out _ _ ⟨(bC Ba.out 0).trans rfl,(bC Ba.out 1).trans rfl⟩ (fun hHeld=>?_)
    clear hK K
    refine norm_ (by show Act.put _ (some 6) _=_;simp only [Act.put,lA,lZ,lS,iw,jw];rfl) ?_
    refine oS 4 7 z45q5 HT_ rfl rfl (by kernel_rfl) (by decide) (fun K hK=>?_)
    refine Kd.R_lit_step (Kd.int .i64) _ 3 ?hg (N:=7) ?hd (xs:=([]:List Int)) (inner:=[]) (ok:=fun _=>True) (okp:=fun _=>True) ?hr ?hp (fun _ hk=>hk) trivial (bJ _ _) (nR _) (by simp) ?_;(case hd=>rfl);(case hg=>rfl);(case hr=>first|(go_simp;done)|(go_simp;rfl));(case hp=>exact (Reps.none _ _))
    intro v242 w10 ho11 hb hg_ hnew_
    clear hg_ hnew_
    (first|rw [← Ny241.out] at ho11|(simp only [Int.reduceToNat] at ho11;rw [← Ny241.out] at ho11))
    have n0_:=Am (rB (rL Bi.out) hb)
    have n1_:=Am (rW ho11 (bZ (by repeat (first|(with_reducible first|exact HB.out|apply oA|apply pN|apply o1|refine bS ?_ Bd.out|refine bS ?_ Bf.out)|exact HB.out))))
    have n2_:=Am (bX Ba.out hb)
    have n3_:=Am (bX Bb.out hb)
    have n4_:=Am (bP (by repeat (first|(with_reducible first|exact HB.out|apply oA|apply pN|apply o1|refine bS ?_ Bd.out|refine bS ?_ Bf.out)|exact HB.out)) hb)
    clear Bi
    clear Ba
    clear Bb
    clear HB
    have Bi:=n0_
    have Bg:=n1_
    have Ba:=n2_
    have Bb:=n3_
    have HB:=n4_
    clear n0_ n1_ n2_ n3_ n4_
    clear hb ho11
    refine hK.out _ _ ⟨(bC Ba.out 0).trans rfl,(bC Ba.out 1).trans rfl⟩ (fun hHeld=>?_)
    clear hK K
    refine norm_ (by show Act.put _ (some 7) _=_;simp only [Act.put,lA,lZ,lS,iw,jw];rfl) ?_
    exact norm_ (by simp only [putAll,Act.put,lA,lZ,lS]) (hCont (v236,v239,v242) _ ⟨hHeld,(rL Bi.out),(rL Bg.out),(bL Ba.out),(bL Bb.out),(by repeat (first|(with_reducible first|exact HB.out|apply oA|apply pN|apply o1|refine bS ?_ Bd.out|refine bS ?_ Bf.out)|exact HB.out))⟩)
   ·skip
    refine Kd.R_lit_step (Kd.int .i64) _ 3 ?hg (N:=7) ?hd (xs:=([]:List Int)) (inner:=[]) (ok:=fun _=>True) (okp:=fun _=>True) ?hr ?hp (fun _ hk=>hk) trivial (bJ _ _) (nR _) (by simp) ?_;(case hd=>rfl);(case hg=>rfl);(case hr=>first|(go_simp;done)|(go_simp;rfl));(case hp=>exact (Reps.none _ _))
    intro v242 w9 ho10 hb hg_ hnew_
    clear hg_ hnew_
    (first|rw [← Ny241.out] at ho10|(simp only [Int.reduceToNat] at ho10;rw [← Ny241.out] at ho10))
    have n0_:=Am (rB (rL Bh.out) hb)
    have n1_:=Am (rW ho10 (bZ (by repeat (first|(with_reducible first|exact HB.out|apply oA|apply pN|apply o1|refine bS ?_ Bd.out|refine bS ?_ Bf.out)|exact HB.out))))
    have n2_:=Am (bX Ba.out hb)
    have n3_:=Am (bX Bb.out hb)
    have n4_:=Am (bP (by repeat (first|(with_reducible first|exact HB.out|apply oA|apply pN|apply o1|refine bS ?_ Bd.out|refine bS ?_ Bf.out)|exact HB.out)) hb)
    clear Bh
    clear Ba
    clear Bb
    clear HB
    have Bh:=n0_
    have Bg:=n1_
    have Ba:=n2_
    have Bb:=n3_
    have HB:=n4_
    clear n0_ n1_ n2_ n3_ n4_
    clear hb ho10
    refine hK.out _ _ ⟨(bC Ba.out 0).trans rfl,(bC Ba.out 1).trans rfl⟩ (fun hHeld=>?_)
    clear hK K
    refine norm_ (by show Act.put _ (some 7) _=_;simp only [Act.put,lA,lZ,lS,iw,jw];rfl) ?_
    refine oS 3 6 z45q5 HT_ rfl rfl (by kernel_rfl) (by decide) (fun K hK=>?_)
    refine Kd.R_append_rows_step Kd.string (w0:=w) w.heap.size (by rfl) (.tmp 3) (.tmp 5) 23 9 (.string ⟨#[]⟩) 16 rfl Try.underlying23 info9 rfl (by decide) (by omega) v236 y235 l0_0 _ _ _ (fun _=>True) (fun _=>False) rfl rfl ?aO ?aR (fun _ _ h=>h) (fun _ h=>h.elim) ?aF ?aB ?aS ?aL ?_
    (case aR=>repeat (first|exact (cB HR0_0.out HB.out)|(with_reducible refine cA ?_ _)|(with_reducible refine cN ?_ _)|(with_reducible refine cD ?_)))
    (case aB=>exact (by repeat (first|(with_reducible first|exact HB.out|apply oA|apply pN|apply o1|refine bS ?_ Bd.out|refine bS ?_ Bf.out)|exact HB.out)))
    (case aF=>exact (fun _ _=>trivial))
    (case aO=>exact (rL Bh.out))
    (case aS=>exact (bZ (by repeat (first|(with_reducible first|exact HB.out|apply oA|apply pN|apply o1|refine bS ?_ Bd.out|refine bS ?_ Bf.out)|exact HB.out))))
    (case aL=>have:=LMc2.out;omega)
    intro v239 w11 ho hb hg hat
    rw [← Ny238.out] at ho
    have n0_:=Am (bG (g:=Be) (o:=.cells #[.slice A0_0 l0_0.length c0_0,.slice A0_1 l0_1.length c0_1] 26 (0,0)) (bL Ba.out) hg (rE Bh.out Ba.out (by decide)))
    have n1_:=Am (bG (g:=Bc) (o:=.cells #[.slice none 0 0,.slice none 0 0] 26 (0,0)) (bL Bb.out) hg (rE Bh.out Bb.out (by decide)))
    have n2_:=Am (rO (rL Bg.out) (rY (rL Bh.out)) (by decide) hg)
    have n3_:=Am (hb)
    have n4_:=Am (ho)
    clear Ba
    clear Bb
    clear Bg
    clear HB
    clear Bh
    have Ba:=n0_
    have Bb:=n1_
    have Bg:=n2_
    have HB:=n3_
    have Bi:=n4_
    clear n0_ n1_ n2_ n3_ n4_
    clear ho hb hg hat
    refine hK.out _ _ ⟨(bC Ba.out 0).trans rfl,(bC Ba.out 1).trans rfl⟩ (fun hHeld=>?_)
    clear hK K
    refine norm_ (by show Act.put _ (some 6) _=_;simp only [Act.put,lA,lZ,lS,iw,jw];rfl) ?_
    exact norm_ (by simp only [putAll,Act.put,lA,lZ,lS]) (hCont (v236,v239,v242) _ ⟨hHeld,(rL Bi.out),(rL Bg.out),(bL Ba.out),(bL Bb.out),(by repeat (first|(with_reducible first|exact HB.out|apply oA|apply pN|apply o1|refine bS ?_ Bd.out|refine bS ?_ Bf.out)|exact HB.out))⟩)
  ·skip
   refine Kd.R_lit_step (Kd.int .i64) _ 3 ?hg (N:=7) ?hd (xs:=([]:List Int)) (inner:=[]) (ok:=fun _=>True) (okp:=fun _=>True) ?hr ?hp (fun _ hk=>hk) trivial (bJ _ _) (nR _) (by simp) ?_;(case hd=>rfl);(case hg=>rfl);(case hr=>first|(go_simp;done)|(go_simp;rfl));(case hp=>exact (Reps.none _ _))
   intro v242 w7 ho8 hb hg_ hnew_
   clear hg_ hnew_
   (first|rw [← Ny241.out] at ho8|(simp only [Int.reduceToNat] at ho8;rw [← Ny241.out] at ho8))
   have n0_:=Am (rW ho8 (bZ (by repeat (first|(with_reducible first|exact HB.out|apply oA|apply pN|apply o1|refine bS ?_ Bd.out|refine bS ?_ Bf.out)|exact HB.out))))
   have n1_:=Am (bX Ba.out hb)
   have n2_:=Am (bX Bb.out hb)
   have n3_:=Am (bP (by repeat (first|(with_reducible first|exact HB.out|apply oA|apply pN|apply o1|refine bS ?_ Bd.out|refine bS ?_ Bf.out)|exact HB.out)) hb)
   clear Ba
   clear Bb
   clear HB
   have Bg:=n0_
   have Ba:=n1_
   have Bb:=n2_
   have HB:=n3_
   clear n0_ n1_ n2_ n3_
   clear hb ho8
   refine hK.out _ _ ⟨(bC Ba.out 0).trans rfl,(bC Ba.out 1).trans rfl⟩ (fun hHeld=>?_)
   clear hK K
   refine norm_ (by show Act.put _ (some 7) _=_;simp only [Act.put,lA,lZ,lS,iw,jw];rfl) ?_
   refine oS 0 3 z45q9 HT_ rfl rfl (by kernel_rfl) (by decide) (fun K hK=>?_)
   refine Kd.R_lit_step Kd.string _ 9 ?hg (N:=3) ?hd (xs:=([]:List ByteArray)) (inner:=[]) (ok:=fun _=>True) (okp:=fun _=>True) ?hr ?hp (fun _ hk=>hk) trivial (bJ _ _) (nR _) (by simp) ?_;(case hd=>rfl);(case hg=>rfl);(case hr=>first|(go_simp;done)|(go_simp;rfl));(case hp=>exact (Reps.none _ _))
   intro v236 w9 ho10 hb hg_ hnew_
   clear hg_ hnew_
   (first|rw [← Ny235.out] at ho10|(simp only [Int.reduceToNat] at ho10;rw [← Ny235.out] at ho10))
   have n0_:=Am (rB (rL Bg.out) hb)
   have n1_:=Am (rW ho10 (bZ (by repeat (first|(with_reducible first|exact HB.out|apply oA|apply pN|apply o1|refine bS ?_ Bd.out|refine bS ?_ Bf.out)|exact HB.out))))
   have n2_:=Am (bX Ba.out hb)
   have n3_:=Am (bX Bb.out hb)
   have n4_:=Am (bP (by repeat (first|(with_reducible first|exact HB.out|apply oA|apply pN|apply o1|refine bS ?_ Bd.out|refine bS ?_ Bf.out)|exact HB.out)) hb)
   clear Bg
   clear Ba
   clear Bb
   clear HB
   have Bg:=n0_
   have Bh:=n1_
   have Ba:=n2_
   have Bb:=n3_
   have HB:=n4_
   clear n0_ n1_ n2_ n3_ n4_
   clear hb ho10
   refine hK.out _ _ ⟨(bC Ba.out 0).trans rfl,(bC Ba.out 1).trans rfl⟩ (fun hHeld=>?_)
   clear hK K
   refine norm_ (by show Act.put _ (some 3) _=_;simp only [Act.put,lA,lZ,lS,iw,jw];rfl) ?_
   refine oS 3 6 z45q5 HT_ rfl rfl (by kernel_rfl) (by decide) (fun K hK=>?_)
   refine Kd.R_append_rows_step Kd.string (w0:=w) w.heap.size (by rfl) (.tmp 3) (.tmp 5) 23 9 (.string ⟨#[]⟩) 16 rfl Try.underlying23 info9 rfl (by decide) (by omega) v236 y235 l0_0 _ _ _ (fun _=>True) (fun _=>False) rfl rfl ?aO ?aR (fun _ _ h=>h) (fun _ h=>h.elim) ?aF ?aB ?aS ?aL ?_
   (case aR=>repeat (first|exact (cB HR0_0.out HB.out)|(with_reducible refine cA ?_ _)|(with_reducible refine cN ?_ _)|(with_reducible refine cD ?_)))
   (case aB=>exact (by repeat (first|(with_reducible first|exact HB.out|apply oA|apply pN|apply o1|refine bS ?_ Bd.out|refine bS ?_ Bf.out)|exact HB.out)))
   (case aF=>exact (fun _ _=>trivial))
   (case aO=>exact (rL Bh.out))
   (case aS=>exact (bZ (by repeat (first|(with_reducible first|exact HB.out|apply oA|apply pN|apply o1|refine bS ?_ Bd.out|refine bS ?_ Bf.out)|exact HB.out))))
   (case aL=>have:=LMc2.out;omega)
   intro v239 w11 ho hb hg hat
   rw [← Ny238.out] at ho
   have n0_:=Am (bG (g:=Be) (o:=.cells #[.slice A0_0 l0_0.length c0_0,.slice A0_1 l0_1.length c0_1] 26 (0,0)) (bL Ba.out) hg (rE Bh.out Ba.out (by decide)))
   have n1_:=Am (bG (g:=Bc) (o:=.cells #[.slice none 0 0,.slice none 0 0] 26 (0,0)) (bL Bb.out) hg (rE Bh.out Bb.out (by decide)))
   have n2_:=Am (rO (rL Bg.out) (rY (rL Bh.out)) (by decide) hg)
   have n3_:=Am (hb)
   have n4_:=Am (ho)
   clear Ba
   clear Bb
   clear Bg
   clear HB
   clear Bh
   have Ba:=n0_
   have Bb:=n1_
   have Bg:=n2_
   have HB:=n3_
   have Bi:=n4_
   clear n0_ n1_ n2_ n3_ n4_
   clear ho hb hg hat
   refine hK.out _ _ ⟨(bC Ba.out 0).trans rfl,(bC Ba.out 1).trans rfl⟩ (fun hHeld=>?_)
   clear hK K
   refine norm_ (by show Act.put _ (some 6) _=_;simp only [Act.put,lA,lZ,lS,iw,jw];rfl) ?_
   exact norm_ (by simp only [putAll,Act.put,lA,lZ,lS]) (hCont (v236,v239,v242) _ ⟨hHeld,(rL Bi.out),(rL Bg.out),(bL Ba.out),(bL Bb.out),(by repeat (first|(with_reducible first|exact HB.out|apply oA|apply pN|apply o1|refine bS ?_ Bd.out|refine bS ?_ Bf.out)|exact HB.out))⟩)
 rintro ⟨v236,v239,v242⟩ w12 ⟨hS_,h0_,h1_,h2_,h3_,h4_⟩
 have n0_:Aside0 (Kd.R Kd.string 9 w12 w.heap.size (fun _=>True) v239 y238):=⟨h0_⟩
 have n1_:Aside0 (Kd.R (Kd.int .i64) 3 w12 w.heap.size (fun _=>True) v242 y241):=⟨h1_⟩
 have n2_:Aside0 (w12.heap[Be]?=some (.cells #[.slice A0_0 l0_0.length c0_0,.slice A0_1 l0_1.length c0_1] 26 (0,0))):=⟨h2_⟩
 have n3_:Aside0 (w12.heap[Bc]?=some (.cells #[.slice none 0 0,.slice none 0 0] 26 (0,0))):=⟨h3_⟩
 have n4_:Aside0 (Below w.heap.size w w12):=⟨h4_⟩
 clear Ba
 clear Bb
 clear HB
 clear h0_ h1_ h2_ h3_ h4_
 have Bi:=n0_
 have Bg:=n1_
 have Ba:=n2_
 have Bb:=n3_
 have HB:=n4_
 clear n0_ n1_ n2_ n3_ n4_
 have hHeld:w12.cell? ⟨Be,0,none⟩=some (.slice A0_0 l0_0.length c0_0)∧w12.cell? ⟨Be,1,none⟩=some (.slice A0_1 l0_1.length c0_1):=hS_
 refine norm_ (by simp only [putAll,Act.put,lA,lZ,lS];rfl) ?_
 refine oS 7 10 z45q10 HT_ rfl rfl (by kernel_rfl) (by decide) (fun K hK=>?_)
 refine Kd.R_append_rows_step (Kd.int .i64) (w0:=w) w.heap.size (by rfl) (.tmp 7) (.tmp 9) 24 3 (.int .i64 0) 8 rfl Try.underlying24 info3 rfl (by decide) (by omega) v242 y241 l0_1 _ _ _ (fun _=>True) (fun _=>False) rfl rfl ?aO ?aR (fun _ _ h=>h) (fun _ h=>h.elim) ?aF ?aB ?aS ?aL ?_
 (case aR=>repeat (first|exact (cB HR0_1.out HB.out)|(with_reducible refine cA ?_ _)|(with_reducible refine cN ?_ _)|(with_reducible refine cD ?_)))
 (case aB=>exact (by repeat (first|(with_reducible first|exact HB.out|apply oA|apply pN|apply o1|refine bS ?_ Bd.out|refine bS ?_ Bf.out)|exact HB.out)))
 (case aF=>exact (fun _ _=>trivial))
 (case aO=>exact (rL Bg.out))
 (case aS=>exact (bZ (by repeat (first|(with_reducible first|exact HB.out|apply oA|apply pN|apply o1|refine bS ?_ Bd.out|refine bS ?_ Bf.out)|exact HB.out))))
 (case aL=>have:=LMc3.out;omega)
 intro v245 w13 ho hb hg hat
 rw [← Ny244.out] at ho
 have n0_:=Am (bG (g:=Be) (o:=.cells #[.slice A0_0 l0_0.length c0_0,.slice A0_1 l0_1.length c0_1] 26 (0,0)) (bL Ba.out) hg (rE Bg.out Ba.out (by decide)))
 have n1_:=Am (bG (g:=Bc) (o:=.cells #[.slice none 0 0,.slice none 0 0] 26 (0,0)) (bL Bb.out) hg (rE Bg.out Bb.out (by decide)))
 have n2_:=Am (rO (rL Bi.out) (rY (rL Bg.out)) (by decide) hg)
 have n3_:=Am (hb)
 have n4_:=Am (ho)
 clear Ba
 clear Bb
 clear Bi
 clear HB
 clear Bg
 have Ba:=n0_
 have Bb:=n1_
 have Bi:=n2_
 have HB:=n3_
 have Bl:=n4_
 clear n0_ n1_ n2_ n3_ n4_
 clear ho hb hg hat
 obtain ⟨Ao14,co14,eo14⟩:=rC Bl.out
 (first|subst eo14|(injection eo14 with f1_ f2_ f3_;have f4_:=f1_.symm;have f5_:=f3_.symm;clear f1_ f2_ f3_;subst f4_;subst f5_))
 obtain ⟨Ao15,co15,eo15⟩:=rC Bi.out
 (first|subst eo15|(injection eo15 with f1_ f2_ f3_;have f4_:=f1_.symm;have f5_:=f3_.symm;clear f1_ f2_ f3_;subst f4_;subst f5_))
 refine hK.out _ _ ⟨(bC Ba.out 0).trans rfl,(bC Ba.out 1).trans rfl⟩ (fun hHeld=>?_)
 clear hK K
 refine norm_ (by show Act.put _ (some 10) _=_;simp only [Act.put,lA,lZ,lS,iw,jw];rfl) ?_
 refine pS 8 11 z45q11 HT_ rfl rfl (by kernel_rfl) (by rfl) (by intro w';go_simp;with_reducible rfl) (by simp only [Act.put,lA,lZ,lS,iw,jw];rfl) ?_
 refine oU 9 none z45q12 HT_ rfl rfl (by kernel_rfl) (by decide) (fun K hK=>?_)
 have hs16:=cz0 Bb.out
 have hfs16:=bF Bb.out 0
 have hns16_0:=Bj.out
 have hms16_0:=Bk.out
 have hs17:=cz1 Bb.out
 have hfs17:=bF Bb.out 1
 have hns17_0:=Bj.out
 have hms17_0:=Bk.out
 refine skip_ (w1:=?_) (by rfl) rfl ?_ ?_
 rotate_left;(go_simp;rfl)
 refine hK.out _ _ ⟨((cF (p:=⟨Bc,_,none⟩) Bj.out _).trans (((cF (p:=⟨Bc,_,none⟩) Bj.out _).trans (hHeld.1)))),((cF (p:=⟨Bc,_,none⟩) Bj.out _).trans (((cF (p:=⟨Bc,_,none⟩) Bj.out _).trans (hHeld.2))))⟩ (fun hHeld=>?_)
 clear hK K
 refine done_ (done_of HT_.out (by kernel_rfl)) ?_
 try go_wp2
 refine bodyPost_ret (results_cell_row rfl _ _ Bc 26 #[.slice Ao15 y238.length co15,.slice Ao14 y244.length co14] (0,0) _ rfl (by (with_reducible repeat (first|refine bN ?_ _|refine bD ?_|refine bA ?_ _));refine bT (cs:=#[.slice Ao15 y238.length co15,.slice none 0 0]) ?_ 1 _ rfl;(with_reducible repeat (first|refine bN ?_ _|refine bD ?_|refine bA ?_ _));refine bT (cs:=#[.slice none 0 0,.slice none 0 0]) ?_ 0 _ rfl;(with_reducible repeat (first|refine bN ?_ _|refine bD ?_|refine bA ?_ _));exact Bb.out) Try.underlying26 rfl (by kernel_rfl)) rfl ?_
 exact ⟨_,_,by first|rfl|(simp [errW_none,errW_some] <;> rfl)|(simp [*,errW_none,errW_some] <;> rfl),by (with_reducible repeat (first|apply rA|apply rN|apply rD));exact rM (rF (p:=⟨Bc,1,none⟩) (rF (p:=⟨Bc,0,none⟩) (rT Bi.out Bb.out (by decide)) (fun _ hk=>hk.2) (.slice Ao15 y238.length co15)) (fun _ hk=>hk.2) (.slice Ao14 y244.length co14)) (fun _ hk=>trivial),by (with_reducible repeat (first|apply rA|apply rN|apply rD));exact rM (rF (p:=⟨Bc,1,none⟩) (rF (p:=⟨Bc,0,none⟩) (rT Bl.out Bb.out (by decide)) (fun _ hk=>hk.2) (.slice Ao15 y238.length co15)) (fun _ hk=>hk.2) (.slice Ao14 y244.length co14)) (fun _ hk=>trivial),by repeat (first|(with_reducible first|exact HB.out|apply oA|apply pN|apply o1|refine bS ?_ Bd.out|refine bS ?_ Bf.out)|exact HB.out)⟩
end Go.Proofs.Ytpdfkbggaihfpaa.PFnPagesSet
