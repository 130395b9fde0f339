/- Proved here, without a condition beyond those that each theorem states: what the Go functions named below do is what the plain functions of the same names say. Written by xprint.py, a program of this session. -/
import Derived.Test.YtpdfkbggaihfpaaPFnPagesSetx0
import Derived.Test.YtpdfkbggaihfpaaPFnPagesSetx1
namespace Go.Proofs.Ytpdfkbggaihfpaa.PFnPagesSet
open Go.RowKit Go.Proofs.YtpdfkbggaihfpaaW.PrintWords Go.Proofs.YtpdfkbggaihfpaaW.PrintLast Go.Proofs.YtpdfkbggaihfpaaW.PrintMore
attribute [local go_sem] max2_int min2_int max_two min_two max_three min_three max_four min_four   -- for this text's walks alone
set_option linter.unusedVariables false
set_option linter.unusedSimpArgs false

attribute [local go_sem ↓] isSome_setCell_
/-! ### spec_PagesNew: function 64 -/
def spec_PagesNew.f (a0 : Int) : Option (List ByteArray × List Int × Bool) := (spec_l6In.f a0 1 12).bind fun t126 => (if t126 = true then (if 0 ≤ a0 then (if (a0 : Int).toNat ≤ 17592186044416 then (if (a0 : Int).toNat ≤ 35184372088832 then (some ((List.replicate (a0 : Int).toNat (⟨#[]⟩ : ByteArray)), (List.replicate (a0 : Int).toNat 0), true)) else (none)) else (none)) else (none)) else (some (([] : List ByteArray), ([] : List Int), false)))
set_option maxHeartbeats 2000000 in
set_option maxRecDepth 100000 in
theorem spec_PagesNew.calls (a0:Int) (r1:List ByteArray) (r2:List Int) (r3:Bool) (w:World) (h:spec_PagesNew.f a0=some (r1,r2,r3)) :
  Calls Try.prog 64 #[.int .i64 a0] w fun e w'=>∃ v0_ v1_:Value,e=.returned (.tuple #[.agg #[v0_,v1_],.bool r3])∧Kd.R Kd.string 9 w' w.heap.size (fun _=>True) v0_ r1∧Kd.R (Kd.int .i64) 3 w' w.heap.size (fun _=>True) v1_ r2∧Below w.heap.size w w':=by
 have hu26:=Try.underlying26
 have HB:=Am (bJ w.heap.size w)
 have H:((spec_l6In.f a0 1 12).bind fun t126=>(if t126=true then (if 0≤a0 then (if (a0:Int).toNat≤17592186044416 then (if (a0:Int).toNat≤35184372088832 then (some ((List.replicate (a0:Int).toNat (⟨#[]⟩:ByteArray)),(List.replicate (a0:Int).toNat 0),true)) else (none)) else (none)) else (none)) else (some (([]:List ByteArray),([]:List Int),false))))=some (r1,r2,r3):=h
 clear h
 replace H:=oC H
 obtain ⟨t126,A20,H⟩:=H
 replace H:(if t126=true then (if 0≤a0 then (if (a0:Int).toNat≤17592186044416 then (if (a0:Int).toNat≤35184372088832 then (some ((List.replicate (a0:Int).toNat (⟨#[]⟩:ByteArray)),(List.replicate (a0:Int).toNat 0),true)) else (none)) else (none)) else (none)) else (some (([]:List ByteArray),([]:List Int),false)))=some (r1,r2,r3):=H
 have A2:=Am A20
 clear A20
 by_cases c3:t126=true
 rotate_left
 ·replace c3:=Bool.eq_false_iff.mpr c3
  subst c3
  have H1:(some (([]:List ByteArray),([]:List Int),false))=some (r1,r2,r3):=by rw [if_neg (show ¬ (false=true) by decide)] at H;exact H
  clear H
  have H:=H1
  clear H1
  simp only [Option.some.injEq,Prod.mk.injEq] at H
  obtain ⟨rfl,rfl,rfl⟩:=H
  go_enter Try.func64,Try.ntmps64
  go_wp2_with (first|((with_reducible refine gD (N:=2) rfl ?_);refine bI ?hg (N:=2) ?hd (cs:=#[.slice none 0 0,.slice none 0 0]) (t:=26) ?hr ?_;(case hd=>rfl);(case hg=>rfl);(case hr=>first|(go_simp;done)|(go_simp;rfl));intro Bb hg w20 hbox hb;have n0_:=Am (bP (by repeat (first|(with_reducible first|exact HB.out|apply oA|apply pN|apply o1)|exact HB.out)) hb);have n1_:=Am (hbox);have n2_:=Am ((by rw [hg];exact (bZ (by repeat (first|(with_reducible first|exact HB.out|apply oA|apply pN|apply o1)|exact HB.out))):w.heap.size≤Bb));have n3_:=Am ((by rw [hg];exact (bZ (by repeat (first|(with_reducible first|exact HB.out|apply oA|apply pN|apply o1)|exact HB.out))):w.heap.size≤Bb));clear HB;revert n0_ n1_ n2_ n3_;intro HB Ba Bf Bc;clear hb hbox hg)|((with_reducible refine gC (f:=51) rfl ?_);refine goesL_ (some 5) rfl rfl Try.func51 (by kernel_rfl) rfl #[.int .i64 a0,.int .i64 1,.int .i64 12] rfl (by (try simp only [lM,lC,lN]);first|done|rfl|(simp only [lD,lT];rfl)) ?_;(with_reducible refine (spec_l6In.calls a0 1 12 false _ A2.out).mono ?_);rintro e w' ⟨rfl,⟨nd,rfl⟩⟩;refine ⟨_,rfl,?_⟩;(try (rw [drewN_self w20];generalize hq_:World.drewN w20 _=w20;have n0_:Aside0 (w20.heap[Bb]?=some (.cells #[.slice none 0 0,.slice none 0 0] 26 (0,0))):=⟨by rw [← hq_];exact (bL Ba.out)⟩;have n1_:Aside0 (Below w.heap.size w w20):=⟨by rw [← hq_];exact (by repeat (first|(with_reducible first|exact HB.out|apply oA|apply pN|apply o1|refine bS ?_ Bc.out)|exact HB.out))⟩;clear Ba HB hq_;revert n0_ n1_;intro Ba HB));have Bg:=cz0 Ba.out;have Bh:=cz1 Ba.out;have Bi:=bF Ba.out 0;have Bj:=bF Ba.out 1))
  refine bodyPost_ret (results_ct rfl _ _ Bb 26 #[.slice none 0 0,.slice none 0 0] (0,0) _ rfl (by (with_reducible repeat (first|refine bN ?_ _|refine bD ?_|refine bA ?_ _));refine bT (cs:=#[.slice none 0 0,.slice none 0 0]) ?_ 1 _ rfl;(with_reducible repeat (first|refine bN ?_ _|refine bD ?_|refine bA ?_ _));refine bT (cs:=#[.slice none 0 0,.slice none 0 0]) ?_ 0 _ rfl;(with_reducible repeat (first|refine bN ?_ _|refine bD ?_|refine bA ?_ _));exact Ba.out) Try.underlying26 rfl (by kernel_rfl)) rfl ?_
  exact ⟨_,_,by first|rfl|(simp [errW_none,errW_some] <;> rfl)|(simp [*,errW_none,errW_some] <;> rfl),by first|exact Kd.R_nil _ _ _ _ _|exact Kd.N_nil _ _ _ _ _|exact Kd.V_nil _ _ _ _ _|exact Kd.Q_nil _ _ _ _ _|exact Kd.S_nil _ _ _ _ _,by first|exact Kd.R_nil _ _ _ _ _|exact Kd.N_nil _ _ _ _ _|exact Kd.V_nil _ _ _ _ _|exact Kd.Q_nil _ _ _ _ _|exact Kd.S_nil _ _ _ _ _,by repeat (first|(with_reducible first|exact HB.out|apply oA|apply pN|apply o1|refine bS ?_ Bc.out)|exact HB.out)⟩

 subst c3
 have H1:(if 0≤a0 then (if (a0:Int).toNat≤17592186044416 then (if (a0:Int).toNat≤35184372088832 then (some ((List.replicate (a0:Int).toNat (⟨#[]⟩:ByteArray)),(List.replicate (a0:Int).toNat 0),true)) else (none)) else (none)) else (none))=some (r1,r2,r3):=by rw [if_pos rfl] at H;exact H
 clear H
 have H:=H1
 clear H1
 by_cases c4:0≤a0
 rotate_left
 ·rw [if_neg c4] at H
  exact absurd H (by simp)
 rw [if_pos c4] at H
 have c4b0:=eq_true c4
 have c4b1:decide (0≤a0)=true:=dT c4
 clear c4
 by_cases c5:(a0:Int).toNat≤17592186044416
 rotate_left
 ·rw [if_neg c5] at H
  exact absurd H (by simp)
 rw [if_pos c5] at H
 have c5b0:=eq_true c5
 have c5b1:decide ((a0:Int).toNat≤17592186044416)=true:=dT c5
 clear c5
 obtain ⟨y127,hy127⟩:∃ y_:List ByteArray,y_=(List.replicate (a0:Int).toNat (⟨#[]⟩:ByteArray)):=⟨_,rfl⟩
 replace H:(if (a0:Int).toNat≤35184372088832 then (some (y127,(List.replicate (a0:Int).toNat 0),true)) else (none))=some (r1,r2,r3):=by first|(rw [hy127];with_reducible exact H)|(have H2_:=(Option.bind_some _ _).symm.trans H;rw [hy127];with_reducible exact H2_)|(have H2_:=(Option.bind_some _ _).symm.trans H;with_reducible exact H2_)|with_reducible exact H|(rw [hy127];exact H)|exact H
 have Ny127:=Am hy127
 clear hy127
 by_cases c6:(a0:Int).toNat≤35184372088832
 rotate_left
 ·rw [if_neg c6] at H
  exact absurd H (by simp)
 rw [if_pos c6] at H
 have c6b0:=eq_true c6
 have c6b1:decide ((a0:Int).toNat≤35184372088832)=true:=dT c6
 clear c6
 obtain ⟨y130,hy130⟩:∃ y_:List Int,y_=(List.replicate (a0:Int).toNat 0):=⟨_,rfl⟩
 replace H:(some (y127,y130,true))=some (r1,r2,r3):=by first|(rw [hy130];with_reducible exact H)|(have H2_:=(Option.bind_some _ _).symm.trans H;rw [hy130];with_reducible exact H2_)|(have H2_:=(Option.bind_some _ _).symm.trans H;with_reducible exact H2_)|with_reducible exact H|(rw [hy130];exact H)|exact H
 have Ny130:=Am hy130
 clear hy130
 simp only [Option.some.injEq,Prod.mk.injEq] at H
 obtain ⟨rfl,rfl,rfl⟩:=H
 go_enter Try.func64,Try.ntmps64
 try go_wp2_with (first|((with_reducible refine gD (N:=2) rfl ?_);refine bI ?hg (N:=2) ?hd (cs:=#[.slice none 0 0,.slice none 0 0]) (t:=26) ?hr ?_;(case hd=>rfl);(case hg=>rfl);(case hr=>first|(go_simp;done)|(go_simp;rfl));intro Bb hg w7 hbox hb;have n0_:=Am (bP (by repeat (first|(with_reducible first|exact HB.out|apply oA|apply pN|apply o1)|exact HB.out)) hb);have n1_:=Am (hbox);have n2_:=Am ((by rw [hg];exact (bZ (by repeat (first|(with_reducible first|exact HB.out|apply oA|apply pN|apply o1)|exact HB.out))):w.heap.size≤Bb));have n3_:=Am ((by rw [hg];exact (bZ (by repeat (first|(with_reducible first|exact HB.out|apply oA|apply pN|apply o1)|exact HB.out))):w.heap.size≤Bb));clear HB;revert n0_ n1_ n2_ n3_;intro HB Ba Bf Bc;clear hb hbox hg)|((with_reducible refine gC (f:=51) rfl ?_);refine goesL_ (some 5) rfl rfl Try.func51 (by kernel_rfl) rfl #[.int .i64 a0,.int .i64 1,.int .i64 12] rfl (by (try simp only [lM,lC,lN]);first|done|rfl|(simp only [lD,lT];rfl)) ?_;(with_reducible refine (spec_l6In.calls a0 1 12 true _ A2.out).mono ?_);rintro e w' ⟨rfl,⟨nd,rfl⟩⟩;refine ⟨_,rfl,?_⟩;(try (rw [drewN_self w7];generalize hq_:World.drewN w7 _=w7;have n0_:Aside0 (w7.heap[Bb]?=some (.cells #[.slice none 0 0,.slice none 0 0] 26 (0,0))):=⟨by rw [← hq_];exact (bL Ba.out)⟩;have n1_:Aside0 (Below w.heap.size w w7):=⟨by rw [← hq_];exact (by repeat (first|(with_reducible first|exact HB.out|apply oA|apply pN|apply o1|refine bS ?_ Bc.out)|exact HB.out))⟩;clear Ba HB hq_;revert n0_ n1_;intro Ba HB))))
 have n0_:=Am (bD Ba.out)
 have n1_:=Am (o1 HB.out)
 clear Ba
 clear HB
 have Ba:=n0_
 have HB:=n1_
 clear n0_ n1_
 refine start_ (n:=7) (S:=fun w'=>True) (ds:=[]) #[false,false,false,false,false,false,false] (by kernel_rfl) rfl rfl trivial (fun hHeld=>?_)
 generalize w7.drew=w8 at Ba HB hHeld ⊢
 refine pure_ (i:=0) (N:=some 8) (v:=?_) (a':=?_) #[true,false,false,false,false,false,false] rfl rfl (by kernel_rfl) (fun _ _ _ h=>h) (Or.inl ⟨by rfl,?_⟩) ?_ ?_
 rotate_left;(intro w';go_simp;with_reducible rfl)
 rotate_left;(simp only [Act.put,lA,lZ,lS,iw,jw];rfl)
 refine pure_ (i:=2) (N:=some 10) (v:=?_) (a':=?_) #[true,false,true,false,false,false,false] rfl rfl (by kernel_rfl) (fun _ _ _ h=>h) (Or.inl ⟨by rfl,?_⟩) ?_ ?_
 rotate_left;(intro w';go_simp;with_reducible rfl)
 rotate_left;(simp only [Act.put,lA,lZ,lS,iw,jw];rfl)
 refine join_ (σ:=Value × Value) 3 #[true,true,true,true,false,false,false] (fun s_=>[(9,s_.1),(11,s_.2)]) (fun s_ w'=>(Kd.R Kd.string 9 w' w.heap.size (fun _=>True) s_.1 y127)∧(Kd.R (Kd.int .i64) 3 w' w.heap.size (fun _=>True) s_.2 y130)∧(w'.heap[Bb]?=some (.cells #[.slice none 0 0,.slice none 0 0] 26 (0,0)))∧(Below w.heap.size w w')) ?_ ?_
 rotate_left
 ·intro hCont
  refine two_ (i:=1) (j:=3) (Ni:=some 9) (Nj:=some 11) #[true,true,true,false,false,false,false] #[true,false,true,true,false,false,false] rfl rfl rfl rfl (by kernel_rfl) (by decide) (by decide) (fun K hK=>?_) (fun K hK=>?_)
  ·skip
   refine Kd.R_make_step Kd.string _ 9 (by rfl) (N:=9) rfl 23 _ _ rfl a0 rfl rfl Try.underlying23 (.string ⟨#[]⟩) 16 info9 rfl (by decide) (by omega) (⟨#[]⟩:ByteArray) (ok:=fun _=>True) (okp:=fun _=>True) rfl (fun _ hk=>hk) trivial (oE (by first|(with_reducible assumption)|assumption)) (Nat.le_trans (Nat.mul_le_mul_right _ (oE (by first|(with_reducible assumption)|assumption):a0.toNat≤17592186044416)) (by omega)) (bJ _ _) (nR _) ?_
   intro v128 w9 ho10 hb hg_ hnew_
   clear hg_ hnew_
   (first|rw [← Ny127.out] at ho10|(simp only [Int.reduceToNat] at ho10;rw [← Ny127.out] at ho10))
   have n0_:=Am (rW ho10 (bZ (by repeat (first|(with_reducible first|exact HB.out|apply oA|apply pN|apply o1|refine bS ?_ Bc.out)|exact HB.out))))
   have n1_:=Am (bX Ba.out hb)
   have n2_:=Am (bP (by repeat (first|(with_reducible first|exact HB.out|apply oA|apply pN|apply o1|refine bS ?_ Bc.out)|exact HB.out)) hb)
   clear Ba
   clear HB
   have Bd:=n0_
   have Ba:=n1_
   have HB:=n2_
   clear n0_ n1_ n2_
   clear hb ho10
   refine hK.out _ _ trivial (fun hHeld=>?_)
   clear hK K
   refine norm_ (by show Act.put _ (some 9) _=_;simp only [Act.put,lA,lZ,lS,iw,jw];rfl) ?_
   refine one_ (i:=3) (N:=some 11) #[true,true,true,true,false,false,false] rfl rfl (by kernel_rfl) (by decide) (fun K hK=>?_)
   refine Kd.R_make_step (Kd.int .i64) _ 3 (by rfl) (N:=11) rfl 24 _ _ rfl a0 rfl rfl Try.underlying24 (.int .i64 0) 8 info3 rfl (by decide) (by omega) 0 (ok:=fun _=>True) (okp:=fun _=>True) rfl (fun _ hk=>hk) trivial (oE (by first|(with_reducible assumption)|assumption)) (Nat.le_trans (Nat.mul_le_mul_right _ (oE (by first|(with_reducible assumption)|assumption):a0.toNat≤35184372088832)) (by omega)) (bJ _ _) (nR _) ?_
   intro v131 w11 ho12 hb hg_ hnew_
   clear hg_ hnew_
   (first|rw [← Ny130.out] at ho12|(simp only [Int.reduceToNat] at ho12;rw [← Ny130.out] at ho12))
   have n0_:=Am (rB (rL Bd.out) hb)
   have n1_:=Am (rW ho12 (bZ (by repeat (first|(with_reducible first|exact HB.out|apply oA|apply pN|apply o1|refine bS ?_ Bc.out)|exact HB.out))))
   have n2_:=Am (bX Ba.out hb)
   have n3_:=Am (bP (by repeat (first|(with_reducible first|exact HB.out|apply oA|apply pN|apply o1|refine bS ?_ Bc.out)|exact HB.out)) hb)
   clear Bd
   clear Ba
   clear HB
   have Bd:=n0_
   have Be:=n1_
   have Ba:=n2_
   have HB:=n3_
   clear n0_ n1_ n2_ n3_
   clear hb ho12
   obtain ⟨Ao13,co13,eo13⟩:=rC Be.out
   (first|subst eo13|(injection eo13 with f1_ f2_ f3_;have f4_:=f1_.symm;have f5_:=f3_.symm;clear f1_ f2_ f3_;subst f4_;subst f5_))
   obtain ⟨Ao14,co14,eo14⟩:=rC Bd.out
   (first|subst eo14|(injection eo14 with f1_ f2_ f3_;have f4_:=f1_.symm;have f5_:=f3_.symm;clear f1_ f2_ f3_;subst f4_;subst f5_))
   refine hK.out _ _ trivial (fun hHeld=>?_)
   clear hK K
   refine norm_ (by show Act.put _ (some 11) _=_;simp only [Act.put,lA,lZ,lS,iw,jw];rfl) ?_
   exact norm_ (by simp only [putAll,Act.put,lA,lZ,lS]) (hCont (.slice Ao14 y127.length co14,.slice Ao13 y130.length co13) _ ⟨(rL Bd.out),(rL Be.out),(bL Ba.out),(by repeat (first|(with_reducible first|exact HB.out|apply oA|apply pN|apply o1|refine bS ?_ Bc.out)|exact HB.out))⟩)
  ·skip
   refine Kd.R_make_step (Kd.int .i64) _ 3 (by rfl) (N:=11) rfl 24 _ _ rfl a0 rfl rfl Try.underlying24 (.int .i64 0) 8 info3 rfl (by decide) (by omega) 0 (ok:=fun _=>True) (okp:=fun _=>True) rfl (fun _ hk=>hk) trivial (oE (by first|(with_reducible assumption)|assumption)) (Nat.le_trans (Nat.mul_le_mul_right _ (oE (by first|(with_reducible assumption)|assumption):a0.toNat≤35184372088832)) (by omega)) (bJ _ _) (nR _) ?_
   intro v131 w9 ho10 hb hg_ hnew_
   clear hg_ hnew_
   (first|rw [← Ny130.out] at ho10|(simp only [Int.reduceToNat] at ho10;rw [← Ny130.out] at ho10))
   have n0_:=Am (rW ho10 (bZ (by repeat (first|(with_reducible first|exact HB.out|apply oA|apply pN|apply o1|refine bS ?_ Bc.out)|exact HB.out))))
   have n1_:=Am (bX Ba.out hb)
   have n2_:=Am (bP (by repeat (first|(with_reducible first|exact HB.out|apply oA|apply pN|apply o1|refine bS ?_ Bc.out)|exact HB.out)) hb)
   clear Ba
   clear HB
   have Be:=n0_
   have Ba:=n1_
   have HB:=n2_
   clear n0_ n1_ n2_
   clear hb ho10
   refine hK.out _ _ trivial (fun hHeld=>?_)
   clear hK K
   refine norm_ (by show Act.put _ (some 11) _=_;simp only [Act.put,lA,lZ,lS,iw,jw];rfl) ?_
   refine one_ (i:=1) (N:=some 9) #[true,true,true,true,false,false,false] rfl rfl (by kernel_rfl) (by decide) (fun K hK=>?_)
   refine Kd.R_make_step Kd.string _ 9 (by rfl) (N:=9) rfl 23 _ _ rfl a0 rfl rfl Try.underlying23 (.string ⟨#[]⟩) 16 info9 rfl (by decide) (by omega) (⟨#[]⟩:ByteArray) (ok:=fun _=>True) (okp:=fun _=>True) rfl (fun _ hk=>hk) trivial (oE (by first|(with_reducible assumption)|assumption)) (Nat.le_trans (Nat.mul_le_mul_right _ (oE (by first|(with_reducible assumption)|assumption):a0.toNat≤17592186044416)) (by omega)) (bJ _ _) (nR _) ?_
   intro v128 w11 ho12 hb hg_ hnew_
   clear hg_ hnew_
   (first|rw [← Ny127.out] at ho12|(simp only [Int.reduceToNat] at ho12;rw [← Ny127.out] at ho12))
   have n0_:=Am (rB (rL Be.out) hb)
   have n1_:=Am (rW ho12 (bZ (by repeat (first|(with_reducible first|exact HB.out|apply oA|apply pN|apply o1|refine bS ?_ Bc.out)|exact HB.out))))
   have n2_:=Am (bX Ba.out hb)
   have n3_:=Am (bP (by repeat (first|(with_reducible first|exact HB.out|apply oA|apply pN|apply o1|refine bS ?_ Bc.out)|exact HB.out)) hb)
   clear Be
   clear Ba
   clear HB
   have Be:=n0_
   have Bd:=n1_
   have Ba:=n2_
   have HB:=n3_
   clear n0_ n1_ n2_ n3_
   clear hb ho12
   obtain ⟨Ao13,co13,eo13⟩:=rC Be.out
   (first|subst eo13|(injection eo13 with f1_ f2_ f3_;have f4_:=f1_.symm;have f5_:=f3_.symm;clear f1_ f2_ f3_;subst f4_;subst f5_))
   obtain ⟨Ao14,co14,eo14⟩:=rC Bd.out
   (first|subst eo14|(injection eo14 with f1_ f2_ f3_;have f4_:=f1_.symm;have f5_:=f3_.symm;clear f1_ f2_ f3_;subst f4_;subst f5_))
   refine hK.out _ _ trivial (fun hHeld=>?_)
   clear hK K
   refine norm_ (by show Act.put _ (some 9) _=_;simp only [Act.put,lA,lZ,lS,iw,jw];rfl) ?_
   exact norm_ (by simp only [putAll,Act.put,lA,lZ,lS]) (hCont (.slice Ao14 y127.length co14,.slice Ao13 y130.length co13) _ ⟨(rL Bd.out),(rL Be.out),(bL Ba.out),(by repeat (first|(with_reducible first|exact HB.out|apply oA|apply pN|apply o1|refine bS ?_ Bc.out)|exact HB.out))⟩)
 rintro ⟨v128,v131⟩ w15 ⟨h0_,h1_,h2_,h3_⟩
 have n0_:Aside0 (Kd.R Kd.string 9 w15 w.heap.size (fun _=>True) v128 y127):=⟨h0_⟩
 have n1_:Aside0 (Kd.R (Kd.int .i64) 3 w15 w.heap.size (fun _=>True) v131 y130):=⟨h1_⟩
 have n2_:Aside0 (w15.heap[Bb]?=some (.cells #[.slice none 0 0,.slice none 0 0] 26 (0,0))):=⟨h2_⟩
 have n3_:Aside0 (Below w.heap.size w w15):=⟨h3_⟩
 clear Ba
 clear HB
 clear h0_ h1_ h2_ h3_
 have Bd:=n0_
 have Be:=n1_
 have Ba:=n2_
 have HB:=n3_
 clear n0_ n1_ n2_ n3_
 have hHeld:=trivial
 obtain ⟨Ao16,co16,eo16⟩:=rC Be.out
 (first|subst eo16|(injection eo16 with f1_ f2_ f3_;have f4_:=f1_.symm;have f5_:=f3_.symm;clear f1_ f2_ f3_;subst f4_;subst f5_))
 obtain ⟨Ao17,co17,eo17⟩:=rC Bd.out
 (first|subst eo17|(injection eo17 with f1_ f2_ f3_;have f4_:=f1_.symm;have f5_:=f3_.symm;clear f1_ f2_ f3_;subst f4_;subst f5_))
 refine norm_ (by simp only [putAll,Act.put,lA,lZ,lS];rfl) ?_
 refine pure_ (i:=4) (N:=some 12) (v:=?_) (a':=?_) #[true,true,true,true,true,false,false] rfl rfl (by kernel_rfl) (fun _ _ _ h=>h) (Or.inl ⟨by rfl,?_⟩) ?_ ?_
 rotate_left;(intro w';go_simp;with_reducible rfl)
 rotate_left;(simp only [Act.put,lA,lZ,lS,iw,jw];rfl)
 refine one_ (i:=5) (N:=none) #[true,true,true,true,true,true,false] rfl rfl (by kernel_rfl) (by decide) (fun K hK=>?_)
 have hs18:=cz0 Ba.out
 have hfs18:=bF Ba.out 0
 have hs19:=cz1 Ba.out
 have hfs19:=bF Ba.out 1
 refine skip_ (w1:=?_) (by rfl) rfl ?_ ?_
 rotate_left;(go_simp;rfl)
 refine hK.out _ _ trivial (fun hHeld=>?_)
 clear hK K
 refine pure_ (i:=6) (N:=some 3) (v:=?_) (a':=?_) #[true,true,true,true,true,true,true] rfl rfl (by kernel_rfl) (fun _ _ _ h=>h) (Or.inl ⟨by rfl,?_⟩) ?_ ?_
 rotate_left;(intro w';go_simp;with_reducible rfl)
 rotate_left;(simp only [Act.put,lA,lZ,lS,iw,jw];rfl)
 refine done_ (by kernel_rfl) ?_
 try go_wp2
 refine bodyPost_ret (results_ct rfl _ _ Bb 26 #[.slice Ao17 y127.length co17,.slice Ao16 y130.length co16] (0,0) _ rfl (by (with_reducible repeat (first|refine bN ?_ _|refine bD ?_|refine bA ?_ _));refine bT (cs:=#[.slice Ao17 y127.length co17,.slice none 0 0]) ?_ 1 _ rfl;(with_reducible repeat (first|refine bN ?_ _|refine bD ?_|refine bA ?_ _));refine bT (cs:=#[.slice none 0 0,.slice none 0 0]) ?_ 0 _ rfl;(with_reducible repeat (first|refine bN ?_ _|refine bD ?_|refine bA ?_ _));exact Ba.out) Try.underlying26 rfl (by kernel_rfl)) rfl ?_
 exact ⟨_,_,by first|rfl|(simp [errW_none,errW_some] <;> rfl)|(simp [*,errW_none,errW_some] <;> rfl),by (with_reducible repeat (first|apply rA|apply rN|apply rD));exact rM (rF (p:=⟨Bb,1,none⟩) (rF (p:=⟨Bb,0,none⟩) (rT Bd.out Ba.out (by decide)) (fun _ hk=>hk.2) (.slice Ao17 y127.length co17)) (fun _ hk=>hk.2) (.slice Ao16 y130.length co16)) (fun _ hk=>trivial),by (with_reducible repeat (first|apply rA|apply rN|apply rD));exact rM (rF (p:=⟨Bb,1,none⟩) (rF (p:=⟨Bb,0,none⟩) (rT Be.out Ba.out (by decide)) (fun _ hk=>hk.2) (.slice Ao17 y127.length co17)) (fun _ hk=>hk.2) (.slice Ao16 y130.length co16)) (fun _ hk=>trivial),by repeat (first|(with_reducible first|exact HB.out|apply oA|apply pN|apply o1|refine bS ?_ Bc.out)|exact HB.out)⟩
end Go.Proofs.Ytpdfkbggaihfpaa.PFnPagesSet
