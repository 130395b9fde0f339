/- Proved here, without a condition beyond those that each theorem states: what the Go functions named below do is what the plain functions of the same names say. Written by xprint.py, a program of this session. -/
import Derived.Test.YtpdfkbggaihfpaaPFnPagesSetx0
namespace Go.Proofs.Ytpdfkbggaihfpaa.PFnPagesSet
open Go.RowKit Go.Proofs.YtpdfkbggaihfpaaW.PrintWords Go.Proofs.YtpdfkbggaihfpaaW.PrintLast Go.Proofs.YtpdfkbggaihfpaaW.PrintMore
attribute [local go_sem] max2_int min2_int max_two min_two max_three min_three max_four min_four   -- for this text's walks alone
set_option linter.unusedVariables false
set_option linter.unusedSimpArgs false

attribute [local go_sem ↓] isSome_setCell_
/-! ### spec_l1Set: function 53 -/
def spec_l1Set.f (a0 : ByteArray) (a1 : Int) (a2 : Int) : Option (ByteArray) := if 0 ≤ a1 then (if a1 ≤ (a0.size : Int) then ((some (([(a2) % 256] : List Int) : List Int)).bind fun y285 => (if (a0.extract 0 (a1 : Int).toNat).size + (strOfNums y285).size ≤ 9223372036854775807 then (if 0 ≤ (wrap64 (a1 + 1)) then (if (wrap64 (a1 + 1)) ≤ (a0.size : Int) then (if ((a0.extract 0 (a1 : Int).toNat) ++ (strOfNums y285)).size + (a0.extract ((wrap64 (a1 + 1)) : Int).toNat a0.size).size ≤ 9223372036854775807 then (some (((a0.extract 0 (a1 : Int).toNat) ++ (strOfNums y285)) ++ (a0.extract ((wrap64 (a1 + 1)) : Int).toNat a0.size))) else (none)) else (none)) else (none)) else (none))) else (none)) else (none)
def spec_l1Set.T1 : Bool × List (List Nat × List Nat) := (true, [([], []), ([], []), ([0, 1], [0, 1]), ([], []), ([3], [3]), ([4], [4]), ([5], [5]), ([2, 6], [2, 6]), ([], []), ([], []), ([9], [9]), ([8, 10], [8, 10]), ([7, 11], [7, 11]), ([12, 0, 1, 2, 3, 4, 5, 6, 7, 8, 9, 10, 11, 12], [12])])
def spec_l1Set.B1 : List Nat := [0, 0, 3, 0, 8, 24, 56, 127, 0, 0, 512, 1792, 4095, 8191]
theorem spec_l1Set.tab1 : rtab .any (opsOf Try.f53 1) = spec_l1Set.T1 := by kernel_rfl
theorem spec_l1Set.bits1 : waitsOk spec_l1Set.T1.2 spec_l1Set.B1 = true := by kernel_rfl
abbrev z53q0 : Array Bool := bQ 14 0
abbrev z53q1 : Array Bool := bQ 14 1
abbrev z53q2 : Array Bool := bQ 14 3
abbrev z53q3 : Array Bool := bQ 14 7
abbrev z53q4 : Array Bool := bQ 14 15
abbrev z53q5 : Array Bool := bQ 14 31
abbrev z53q6 : Array Bool := bQ 14 287
abbrev z53q7 : Array Bool := bQ 14 799
abbrev z53q8 : Array Bool := bQ 14 1823
abbrev z53q9 : Array Bool := bQ 14 3871
abbrev z53q10 : Array Bool := bQ 14 3903
abbrev z53q11 : Array Bool := bQ 14 3967
abbrev z53q12 : Array Bool := bQ 14 4095
abbrev z53q13 : Array Bool := bQ 14 8191
abbrev z53q14 : Array Bool := bQ 14 16383
set_option maxHeartbeats 2000000 in
set_option maxRecDepth 100000 in
theorem spec_l1Set.calls (a0:ByteArray) (a1:Int) (a2:Int) (r:ByteArray) (w:World) (h:spec_l1Set.f a0 a1 a2=some r) :
  Calls Try.prog 53 #[.string a0,.int .i64 a1,.int .i64 a2] w fun e w'=>e=.returned (.string r)∧Below w.heap.size w w':=by
 have HB:=Am (bJ w.heap.size w)
 have H:(if 0≤a1 then (if a1≤(a0.size:Int) then ((some (([(a2) % 256]:List Int):List Int)).bind fun y285=>(if (a0.extract 0 (a1:Int).toNat).size + (strOfNums y285).size≤9223372036854775807 then (if 0≤(wrap64 (a1 + 1)) then (if (wrap64 (a1 + 1))≤(a0.size:Int) then (if ((a0.extract 0 (a1:Int).toNat) ++ (strOfNums y285)).size + (a0.extract ((wrap64 (a1 + 1)):Int).toNat a0.size).size≤9223372036854775807 then (some (((a0.extract 0 (a1:Int).toNat) ++ (strOfNums y285)) ++ (a0.extract ((wrap64 (a1 + 1)):Int).toNat a0.size))) else (none)) else (none)) else (none)) else (none))) else (none)) else (none))=some r:=h
 clear h
 by_cases c4:0≤a1
 rotate_left
 ·rw [if_neg c4] at H
  exact absurd H (by simp)

 rw [if_pos c4] at H
 have c4b0:=eq_true c4
 have c4b1:decide (0≤a1)=true:=dT c4
 clear c4
 by_cases c5:a1≤(a0.size:Int)
 rotate_left
 ·rw [if_neg c5] at H
  exact absurd H (by simp)
 rw [if_pos c5] at H
 have c5b0:=eq_true c5
 have c5b1:decide (a1≤(a0.size:Int))=true:=dT c5
 clear c5
 obtain ⟨y285,hy285⟩:∃ y_:List Int,y_=(([(a2) % 256]:List Int)):=⟨_,rfl⟩
 replace H:(if (a0.extract 0 (a1:Int).toNat).size + (strOfNums y285).size≤9223372036854775807 then (if 0≤(wrap64 (a1 + 1)) then (if (wrap64 (a1 + 1))≤(a0.size:Int) then (if ((a0.extract 0 (a1:Int).toNat) ++ (strOfNums y285)).size + (a0.extract ((wrap64 (a1 + 1)):Int).toNat a0.size).size≤9223372036854775807 then (some (((a0.extract 0 (a1:Int).toNat) ++ (strOfNums y285)) ++ (a0.extract ((wrap64 (a1 + 1)):Int).toNat a0.size))) else (none)) else (none)) else (none)) else (none))=some r:=by first|(rw [hy285];with_reducible exact H)|(have H2_:=(Option.bind_some _ _).symm.trans H;rw [hy285];with_reducible exact H2_)|(have H2_:=(Option.bind_some _ _).symm.trans H;with_reducible exact H2_)|with_reducible exact H|(rw [hy285];exact H)|exact H
 have Ny285:=Am hy285
 clear hy285
 by_cases c6:(a0.extract 0 (a1:Int).toNat).size + (strOfNums y285).size≤9223372036854775807
 rotate_left
 ·rw [if_neg c6] at H
  exact absurd H (by simp)
 rw [if_pos c6] at H
 have c6b0:=eq_true c6
 have c6b1:decide ((a0.extract 0 (a1:Int).toNat).size + (strOfNums y285).size≤9223372036854775807)=true:=dT c6
 try have c6b2:(9223372036854775807<(a0.extract 0 (a1:Int).toNat).size + (strOfNums y285).size)=False:=eq_false (Nat.not_lt.2 c6)
 have hxa_:(a0.extract 0 (a1:Int).toNat).size=(a1:Int).toNat:=by rw [ByteArray.size_extract];have:=of_eq_true c4b0;have:=of_eq_true c5b0;omega
 have hya_:=c6
 have c6b3:(9223372036854775807<(a1:Int).toNat + (strOfNums y285).size)=False:=eq_false (by rw [hxa_] at hya_;omega)
 clear hya_
 obtain ⟨ji7,hji7⟩:∃ j_:Int,(wrap64 (a1 + 1))=j_:=⟨_,rfl⟩
 replace H:(if 0≤(ji7) then (if (ji7)≤(a0.size:Int) then (if ((a0.extract 0 (a1:Int).toNat) ++ (strOfNums y285)).size + (a0.extract ((ji7):Int).toNat a0.size).size≤9223372036854775807 then (some (((a0.extract 0 (a1:Int).toNat) ++ (strOfNums y285)) ++ (a0.extract ((ji7):Int).toNat a0.size))) else (none)) else (none)) else (none))=some r:=by first|(rw [hji7] at H;exact H)|(simp only [hji7] at H ⊢;exact H)
 have hji7w:(IntKind.i64.wrap (a1 + 1))=ji7:=(i64_w _).trans hji7
 by_cases c8:0≤(ji7)
 rotate_left
 ·rw [if_neg c8] at H
  exact absurd H (by simp)
 rw [if_pos c8] at H
 have c8b0:=eq_true c8
 have c8b1:decide (0≤(ji7))=true:=dT c8
 clear c8
 by_cases c9:(ji7)≤(a0.size:Int)
 rotate_left
 ·rw [if_neg c9] at H
  exact absurd H (by simp)
 rw [if_pos c9] at H
 have c9b0:=eq_true c9
 have c9b1:decide ((ji7)≤(a0.size:Int))=true:=dT c9
 clear c9
 by_cases c10:((a0.extract 0 (a1:Int).toNat) ++ (strOfNums y285)).size + (a0.extract ((ji7):Int).toNat a0.size).size≤9223372036854775807
 rotate_left
 ·rw [if_neg c10] at H
  exact absurd H (by simp)
 rw [if_pos c10] at H
 have c10b0:=eq_true c10
 have c10b1:decide (((a0.extract 0 (a1:Int).toNat) ++ (strOfNums y285)).size + (a0.extract ((ji7):Int).toNat a0.size).size≤9223372036854775807)=true:=dT c10
 try have c10b2:(9223372036854775807<((a0.extract 0 (a1:Int).toNat) ++ (strOfNums y285)).size + (a0.extract ((ji7):Int).toNat a0.size).size)=False:=eq_false (Nat.not_lt.2 c10)
 have hxb_:(a0.extract ((ji7):Int).toNat a0.size).size=a0.size - ((ji7):Int).toNat:=by rw [ByteArray.size_extract];omega
 have hya_:=c10
 have c10b3:(9223372036854775807<(a1:Int).toNat + (strOfNums y285).size + (a0.size - (ji7:Int).toNat))=False:=eq_false (by rw [ByteArray.size_append,hxa_,hxb_] at hya_;omega)
 clear hya_
 obtain rfl:=oJ H
 go_enter Try.func53,Try.ntmps53
 try go_wp2
 have n0_:=Am (o1 HB.out)
 clear HB
 have HB:=n0_
 clear n0_
 refine start_ (n:=14) (S:=fun w'=>True) (ds:=[]) z53q0 (by kernel_rfl) rfl rfl trivial (fun hHeld=>?_);refine with_st spec_l1Set.tab1 spec_l1Set.bits1 (fun _ _ _ _ _ h=>h) (fun HT_=>?_)
 generalize w.drew=w11 at HB hHeld ⊢
 refine pS 0 7 z53q1 HT_ rfl rfl (by kernel_rfl) (by rfl) (by intro w';go_simp;with_reducible rfl) (by simp only [Act.put,lA,lZ,lS,iw,jw];rfl) ?_
 refine pS 1 8 z53q2 HT_ rfl rfl (by kernel_rfl) (by rfl) (by intro w';go_simp;with_reducible rfl) (by simp only [Act.put,lA,lZ,lS,iw,jw];rfl) ?_
 refine pS 2 9 z53q3 HT_ rfl rfl (by kernel_rfl) (by rfl) (by intro w';go_simp;with_reducible rfl) (by simp only [Act.put,lA,lZ,lS,iw,jw];rfl) ?_
 refine pS 3 10 z53q4 HT_ rfl rfl (by kernel_rfl) (by rfl) (by intro w';go_simp;with_reducible rfl) (by simp only [Act.put,lA,lZ,lS,iw,jw];rfl) ?_
 refine pS 4 11 z53q5 HT_ rfl rfl (by kernel_rfl) (by rfl) (by intro w';go_simp;with_reducible rfl) (by simp only [Act.put,lA,lZ,lS,iw,jw];rfl) ?_
 refine pS 8 15 z53q6 HT_ rfl rfl (by kernel_rfl) (by rfl) (by intro w';go_simp;with_reducible rfl) (by simp only [Act.put,lA,lZ,lS,iw,jw];rfl) ?_
 refine pS 9 16 z53q7 HT_ rfl rfl (by kernel_rfl) (by rfl) (by intro w';go_simp;with_reducible rfl) (by simp only [Act.put,lA,lZ,lS,iw,jw];rfl) ?_
 refine pS 10 17 z53q8 HT_ rfl rfl (by kernel_rfl) (by rfl) (by intro w';go_simp;with_reducible rfl) (by simp only [Act.put,lA,lZ,lS,iw,jw];rfl) ?_
 refine pS 11 18 z53q9 HT_ rfl rfl (by kernel_rfl) (by rfl) (by intro w';go_simp;with_reducible rfl) (by simp only [Act.put,lA,lZ,lS,iw,jw];rfl) ?_
 refine oS 5 12 z53q10 HT_ rfl rfl (by kernel_rfl) (by decide) (fun K hK=>?_)
 refine Kd.R_lit_step (Kd.int .u8) _ 5 ?hg (N:=12) ?hd (xs:=([(a2) % 256]:List Int)) (inner:=[.int .u8 ((a2) % 256)]) (ok:=fun _=>True) (okp:=fun _=>True) ?hr ?hp (fun _ hk=>hk) trivial (bJ _ _) (nR _) (by simp) ?_;(case hd=>rfl);(case hg=>rfl);(case hr=>first|(go_simp;done)|(go_simp;rfl));(case hp=>exact (Reps.one (show Kd.M (Kd.int .u8) _ _ _ ((a2) % 256) [.int .u8 ((a2) % 256)] from rfl) (Reps.none _ _)))
 intro v286 w12 ho13 hb hg_ hnew_
 clear hg_ hnew_
 (first|rw [← Ny285.out] at ho13|(simp only [Int.reduceToNat] at ho13;rw [← Ny285.out] at ho13))
 have n0_:=Am (rW ho13 (bZ (by repeat (first|(with_reducible first|exact HB.out|apply oA|apply pN|apply o1)|exact HB.out))))
 have n1_:=Am (bP (by repeat (first|(with_reducible first|exact HB.out|apply oA|apply pN|apply o1)|exact HB.out)) hb)
 clear HB
 have Ba:=n0_
 have HB:=n1_
 clear n0_ n1_
 clear hb ho13
 refine hK.out _ _ trivial (fun hHeld=>?_)
 clear hK K
 refine norm_ (by show Act.put _ (some 12) _=_;simp only [Act.put,lA,lZ,lS,iw,jw];rfl) ?_
 refine oS 6 13 z53q11 HT_ rfl rfl (by kernel_rfl) (by decide) (fun K hK=>?_)
 have hcv14:=own_string (P:=Try.prog) Try.underlying22 Try.underlying5 Try.underlying9 (Kd.own_of_R Ba.out)
 refine value_ (w1:=?_) (v:=?_) (by rfl) rfl ?_ ?_
 rotate_left 2
 ·go_simp
  constructor
  ·rfl
  ·rfl
 clear hcv14
 refine hK.out _ _ trivial (fun hHeld=>?_)
 clear hK K
 refine norm_ (by show Act.put _ (some 13) _=_;simp only [Act.put,lA,lZ,lS,iw,jw];rfl) ?_
 refine pS 7 14 z53q12 HT_ rfl rfl (by kernel_rfl) (by rfl) (by intro w';go_simp;with_reducible rfl) (by simp only [Act.put,lA,lZ,lS,iw,jw];rfl) ?_
 refine pS 12 19 z53q13 HT_ rfl rfl (by kernel_rfl) (by rfl) (by intro w';go_simp;with_reducible rfl) (by simp only [Act.put,lA,lZ,lS,iw,jw];rfl) ?_
 refine pS 13 6 z53q14 HT_ rfl rfl (by kernel_rfl) (by rfl) (by intro w';go_simp;with_reducible rfl) (by simp only [Act.put,lA,lZ,lS,iw,jw];rfl) ?_
 refine done_ (done_of HT_.out (by kernel_rfl)) ?_
 try go_wp2
 go_ret
 exact ⟨by first|rfl|(simp [errW_none,errW_some] <;> rfl)|(simp only [← hji7];first|rfl|(simp [errW_none,errW_some] <;> rfl))|(simp [*,errW_none,errW_some] <;> rfl),by repeat (first|(with_reducible first|exact HB.out|apply oA|apply pN|apply o1)|exact HB.out)⟩
end Go.Proofs.Ytpdfkbggaihfpaa.PFnPagesSet
