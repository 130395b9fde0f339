/- Proved here, without a condition beyond those that each theorem states: what the Go functions named below do is what the plain functions of the same names say. Written by xprint.py, a program of this session. -/
import Derived.Test.YtehekikjadjdaaaPFnExactSigsRunx0
namespace Go.Proofs.Ytehekikjadjdaaa.PFnExactSigsRun
open Go.RowKit Go.Proofs.YtehekikjadjdaaaW.PrintWords Go.Proofs.YtehekikjadjdaaaW.PrintLast Go.Proofs.YtehekikjadjdaaaW.PrintMore
attribute [local go_sem] max2_int min2_int max_two min_two max_three min_three max_four min_four   -- for this text's walks alone
set_option linter.unusedVariables false
set_option linter.unusedSimpArgs false

attribute [local go_sem ↓] isSome_setCell_
/-! ### spec_l10Copy: function 57 -/
def spec_l10Copy.f (l0_0 : List Bool) (l0_1 : List Bool) (l0_2 : List Int) : Option (List Bool × List Bool × List Int) := (some (([] : List Bool) : List Bool)).bind fun y161 => (if y161.length + l0_0.length < 140737488355328 then ((some (([] : List Bool) : List Bool)).bind fun y167 => (if y167.length + l0_1.length < 140737488355328 then ((some (([] : List Int) : List Int)).bind fun y173 => (if y173.length + l0_2.length < 17592186044416 then (some ((y161 ++ l0_0), (y167 ++ l0_1), (y173 ++ l0_2))) else (none))) else (none))) else (none))
def spec_l10Copy.T1 : Bool × List (List Nat × List Nat) := (true, [([], []), ([], []), ([1], [1]), ([0, 2], [0, 2]), ([], []), ([], []), ([5], [5]), ([4, 6, 3], [4, 6]), ([], []), ([], []), ([9], [9]), ([8, 10, 7], [8, 10]), ([3, 7, 11], [3, 7, 11]), ([12, 11, 0, 1, 2, 3, 4, 5, 6, 7, 8, 9, 10, 11, 12], [12])])
def spec_l10Copy.B1 : List Nat := [0, 0, 2, 7, 0, 0, 32, 127, 0, 0, 512, 2047, 4095, 8191]
theorem spec_l10Copy.tab1 : rtab .any (opsOf Try.f57 1) = spec_l10Copy.T1 := by kernel_rfl
theorem spec_l10Copy.bits1 : waitsOk spec_l10Copy.T1.2 spec_l10Copy.B1 = true := by kernel_rfl
abbrev z57q0 : Array Bool := bQ 14 0
abbrev z57q1 : Array Bool := bQ 14 2
abbrev z57q2 : Array Bool := bQ 14 34
abbrev z57q3 : Array Bool := bQ 14 546
abbrev z57q4 : Array Bool := bQ 14 550
abbrev z57q5 : Array Bool := bQ 14 614
abbrev z57q6 : Array Bool := bQ 14 1638
abbrev z57q7 : Array Bool := bQ 14 2047
abbrev z57q8 : Array Bool := bQ 14 1791
abbrev z57q9 : Array Bool := bQ 14 1919
abbrev z57q10 : Array Bool := bQ 14 1663
abbrev z57q11 : Array Bool := bQ 14 1903
abbrev z57q12 : Array Bool := bQ 14 1911
abbrev z57q13 : Array Bool := bQ 14 1647
abbrev z57q14 : Array Bool := bQ 14 1655
abbrev z57q15 : Array Bool := bQ 14 1895
abbrev z57q16 : Array Bool := bQ 14 1910
abbrev z57q17 : Array Bool := bQ 14 1639
abbrev z57q18 : Array Bool := bQ 14 1654
abbrev z57q19 : Array Bool := bQ 14 1894
abbrev z57q20 : Array Bool := bQ 14 4095
abbrev z57q21 : Array Bool := bQ 14 8191
abbrev z57q22 : Array Bool := bQ 14 16383
set_option maxHeartbeats 2000000 in
set_option maxRecDepth 100000 in
theorem spec_l10Copy.calls (A0_0:Option Addr) (c0_0:Nat) (l0_0:List Bool) (A0_1:Option Addr) (c0_1:Nat) (l0_1:List Bool) (A0_2:Option Addr) (c0_2:Nat) (l0_2:List Int) (r1:List Bool) (r2:List Bool) (r3:List Int) (w:World) (hr0_0:Kd.C Kd.bool w A0_0 l0_0.length l0_0) (hc0_0:l0_0.length≤c0_0) (hr0_1:Kd.C Kd.bool w A0_1 l0_1.length l0_1) (hc0_1:l0_1.length≤c0_1) (hr0_2:Kd.C (Kd.int .i64) w A0_2 l0_2.length l0_2) (hc0_2:l0_2.length≤c0_2) (h:spec_l10Copy.f l0_0 l0_1 l0_2=some (r1,r2,r3)) :
  Calls Try.prog 57 #[.agg #[.slice A0_0 l0_0.length c0_0,.slice A0_1 l0_1.length c0_1,.slice A0_2 l0_2.length c0_2]] w fun e w'=>∃ v0_ v1_ v2_:Value,e=.returned (.agg #[v0_,v1_,v2_])∧Kd.R Kd.bool 4 w' w.heap.size (fun k_=>some k_≠(v1_:Value).ownBlock) v0_ r1∧Kd.R Kd.bool 4 w' w.heap.size (fun k_=>some k_≠(v0_:Value).ownBlock) v1_ r2∧Kd.R (Kd.int .i64) 3 w' w.heap.size (fun _=>True) v2_ r3∧Below w.heap.size w w':=by
 have hu27:=Try.underlying27
 have HR0_0:=Am hr0_0
 have HC0_0:=Am hc0_0
 clear hr0_0 hc0_0
 have HR0_1:=Am hr0_1
 have HC0_1:=Am hc0_1
 clear hr0_1 hc0_1
 have HR0_2:=Am hr0_2
 have HC0_2:=Am hc0_2
 clear hr0_2 hc0_2
 have HB:=Am (bJ w.heap.size w)
 have H:((some (([]:List Bool):List Bool)).bind fun y161=>(if y161.length + l0_0.length<140737488355328 then ((some (([]:List Bool):List Bool)).bind fun y167=>(if y167.length + l0_1.length<140737488355328 then ((some (([]:List Int):List Int)).bind fun y173=>(if y173.length + l0_2.length<17592186044416 then (some ((y161 ++ l0_0),(y167 ++ l0_1),(y173 ++ l0_2))) else (none))) else (none))) else (none)))=some (r1,r2,r3):=h
 clear h
 obtain ⟨y161,hy161⟩:∃ y_:List Bool,y_=(([]:List Bool)):=⟨_,rfl⟩
 replace H:(if y161.length + l0_0.length<140737488355328 then ((some (([]:List Bool):List Bool)).bind fun y167=>(if y167.length + l0_1.length<140737488355328 then ((some (([]:List Int):List Int)).bind fun y173=>(if y173.length + l0_2.length<17592186044416 then (some ((y161 ++ l0_0),(y167 ++ l0_1),(y173 ++ l0_2))) else (none))) else (none))) else (none))=some (r1,r2,r3):=by first|(rw [hy161];with_reducible exact H)|(have H2_:=(Option.bind_some _ _).symm.trans H;rw [hy161];with_reducible exact H2_)|(have H2_:=(Option.bind_some _ _).symm.trans H;with_reducible exact H2_)|with_reducible exact H|(rw [hy161];exact H)|exact H
 have Ny161:=Am hy161
 clear hy161
 by_cases c2:y161.length + l0_0.length<140737488355328
 rotate_left
 ·rw [if_neg c2] at H
  exact absurd H (by simp)

 rw [if_pos c2] at H
 have LMc2:=Am c2
 clear c2
 obtain ⟨y164,hy164⟩:∃ y_:List Bool,y_=(y161 ++ l0_0):=⟨_,rfl⟩
 replace H:((some (([]:List Bool):List Bool)).bind fun y167=>(if y167.length + l0_1.length<140737488355328 then ((some (([]:List Int):List Int)).bind fun y173=>(if y173.length + l0_2.length<17592186044416 then (some (y164,(y167 ++ l0_1),(y173 ++ l0_2))) else (none))) else (none)))=some (r1,r2,r3):=by first|(rw [hy164];with_reducible exact H)|(have H2_:=(Option.bind_some _ _).symm.trans H;rw [hy164];with_reducible exact H2_)|(have H2_:=(Option.bind_some _ _).symm.trans H;with_reducible exact H2_)|with_reducible exact H|(rw [hy164];exact H)|exact H
 have Ny164:=Am hy164
 clear hy164
 obtain ⟨y167,hy167⟩:∃ y_:List Bool,y_=(([]:List Bool)):=⟨_,rfl⟩
 replace H:(if y167.length + l0_1.length<140737488355328 then ((some (([]:List Int):List Int)).bind fun y173=>(if y173.length + l0_2.length<17592186044416 then (some (y164,(y167 ++ l0_1),(y173 ++ l0_2))) else (none))) else (none))=some (r1,r2,r3):=by first|(rw [hy167];with_reducible exact H)|(have H2_:=(Option.bind_some _ _).symm.trans H;rw [hy167];with_reducible exact H2_)|(have H2_:=(Option.bind_some _ _).symm.trans H;with_reducible exact H2_)|with_reducible exact H|(rw [hy167];exact H)|exact H
 have Ny167:=Am hy167
 clear hy167
 by_cases c3:y167.length + l0_1.length<140737488355328
 rotate_left
 ·rw [if_neg c3] at H
  exact absurd H (by simp)
 rw [if_pos c3] at H
 have LMc3:=Am c3
 clear c3
 obtain ⟨y170,hy170⟩:∃ y_:List Bool,y_=(y167 ++ l0_1):=⟨_,rfl⟩
 replace H:((some (([]:List Int):List Int)).bind fun y173=>(if y173.length + l0_2.length<17592186044416 then (some (y164,y170,(y173 ++ l0_2))) else (none)))=some (r1,r2,r3):=by first|(rw [hy170];with_reducible exact H)|(have H2_:=(Option.bind_some _ _).symm.trans H;rw [hy170];with_reducible exact H2_)|(have H2_:=(Option.bind_some _ _).symm.trans H;with_reducible exact H2_)|with_reducible exact H|(rw [hy170];exact H)|exact H
 have Ny170:=Am hy170
 clear hy170
 obtain ⟨y173,hy173⟩:∃ y_:List Int,y_=(([]:List Int)):=⟨_,rfl⟩
 replace H:(if y173.length + l0_2.length<17592186044416 then (some (y164,y170,(y173 ++ l0_2))) else (none))=some (r1,r2,r3):=by first|(rw [hy173];with_reducible exact H)|(have H2_:=(Option.bind_some _ _).symm.trans H;rw [hy173];with_reducible exact H2_)|(have H2_:=(Option.bind_some _ _).symm.trans H;with_reducible exact H2_)|with_reducible exact H|(rw [hy173];exact H)|exact H
 have Ny173:=Am hy173
 clear hy173
 by_cases c4:y173.length + l0_2.length<17592186044416
 rotate_left
 ·rw [if_neg c4] at H
  exact absurd H (by simp)
 rw [if_pos c4] at H
 have LMc4:=Am c4
 clear c4
 obtain ⟨y176,hy176⟩:∃ y_:List Int,y_=(y173 ++ l0_2):=⟨_,rfl⟩
 replace H:(some (y164,y170,y176))=some (r1,r2,r3):=by first|(rw [hy176];with_reducible exact H)|(have H2_:=(Option.bind_some _ _).symm.trans H;rw [hy176];with_reducible exact H2_)|(have H2_:=(Option.bind_some _ _).symm.trans H;with_reducible exact H2_)|with_reducible exact H|(rw [hy176];exact H)|exact H
 have Ny176:=Am hy176
 clear hy176
 simp only [Option.some.injEq,Prod.mk.injEq] at H
 obtain ⟨rfl,rfl,rfl⟩:=H
 go_enter Try.func57,Try.ntmps57
 try go_wp2_with (first|((with_reducible refine gD (N:=1) rfl ?_);refine bI ?hg (N:=1) ?hd (cs:=#[.slice A0_0 l0_0.length c0_0,.slice A0_1 l0_1.length c0_1,.slice A0_2 l0_2.length c0_2]) (t:=27) ?hr ?_;(case hd=>rfl);(case hg=>rfl);(case hr=>first|(go_simp;done)|(go_simp;rfl));intro Bc hg w5 hbox hb;have n0_:=Am (bP (by repeat (first|(with_reducible first|exact HB.out|apply oA|apply pN|apply o1)|exact HB.out)) hb);have n1_:=Am (hbox);have n2_:=Am ((by rw [hg];exact (bZ (by repeat (first|(with_reducible first|exact HB.out|apply oA|apply pN|apply o1)|exact HB.out))):w.heap.size≤Bc));have n3_:=Am ((by rw [hg];exact (bZ (by repeat (first|(with_reducible first|exact HB.out|apply oA|apply pN|apply o1)|exact HB.out))):w.heap.size≤Bc));clear HB;revert n0_ n1_ n2_ n3_;intro HB Ba Bo Be;clear hb hbox hg)|((with_reducible refine gD (N:=2) rfl ?_);refine bI ?hg (N:=2) ?hd (cs:=#[.slice none 0 0,.slice none 0 0,.slice none 0 0]) (t:=27) ?hr ?_;(case hd=>rfl);(case hg=>rfl);(case hr=>first|(go_simp;done)|(go_simp;rfl));intro Bd hg w6 hbox hb;have n0_:=Am (bX Ba.out hb);have n1_:=Am (bP (by repeat (first|(with_reducible first|exact HB.out|apply oA|apply pN|apply o1|refine bS ?_ Be.out)|exact HB.out)) hb);have n2_:=Am (hbox);have n3_:=Am ((by rw [hg];exact (bZ (by repeat (first|(with_reducible first|exact HB.out|apply oA|apply pN|apply o1|refine bS ?_ Be.out)|exact HB.out))):w.heap.size≤Bd));have n4_:=Am ((by rw [hg];exact (bZ (by repeat (first|(with_reducible first|exact HB.out|apply oA|apply pN|apply o1|refine bS ?_ Be.out)|exact HB.out))):w.heap.size≤Bd));have n5_:=Am ((nL Ba.out hg));have n6_:=Am ((nG Ba.out hg));clear Ba HB;revert n0_ n1_ n2_ n3_ n4_ n5_ n6_;intro Ba HB Bb Bp Bf Bk Bm;clear hb hbox hg))
 have n0_:=Am (bD Ba.out)
 have n1_:=Am (bD Bb.out)
 have n2_:=Am (o1 HB.out)
 clear Ba
 clear Bb
 clear HB
 have Ba:=n0_
 have Bb:=n1_
 have HB:=n2_
 clear n0_ n1_ n2_
 refine start_ (n:=14) (S:=fun w'=>w'.cell? ⟨Bc,0,none⟩=some (.slice A0_0 l0_0.length c0_0)∧w'.cell? ⟨Bc,1,none⟩=some (.slice A0_1 l0_1.length c0_1)∧w'.cell? ⟨Bc,2,none⟩=some (.slice A0_2 l0_2.length c0_2)) (ds:=[]) z57q0 (by kernel_rfl) rfl rfl ⟨(bC Ba.out 0).trans rfl,(bC Ba.out 1).trans rfl,(bC Ba.out 2).trans rfl⟩ (fun hHeld=>?_);refine with_st spec_l10Copy.tab1 spec_l10Copy.bits1 (fun _ _ _ _ _ h=>h) (fun HT_=>?_)
 generalize w6.drew=w7 at Ba Bb HB hHeld ⊢
 refine pS 1 4 z57q1 HT_ rfl rfl (by kernel_rfl) (by rfl) (by intro w';go_simp;with_reducible rfl) (by simp only [Act.put,lA,lZ,lS,iw,jw];rfl) ?_
 refine pS 5 8 z57q2 HT_ rfl rfl (by kernel_rfl) (by rfl) (by intro w';go_simp;with_reducible rfl) (by simp only [Act.put,lA,lZ,lS,iw,jw];rfl) ?_
 refine pS 9 12 z57q3 HT_ rfl rfl (by kernel_rfl) (by rfl) (by intro w';go_simp;with_reducible rfl) (by simp only [Act.put,lA,lZ,lS,iw,jw];rfl) ?_
 refine tS 2 5 z57q4 HT_ hHeld rfl rfl (by kernel_rfl) (by rfl) (by rintro w' ⟨s0,s1,s2⟩;go_simp;with_reducible rfl) (by simp only [Act.put,lA,lZ,lS,iw,jw];rfl) ?_
 refine tS 6 9 z57q5 HT_ hHeld rfl rfl (by kernel_rfl) (by rfl) (by rintro w' ⟨s0,s1,s2⟩;go_simp;with_reducible rfl) (by simp only [Act.put,lA,lZ,lS,iw,jw];rfl) ?_
 refine tS 10 13 z57q6 HT_ hHeld rfl rfl (by kernel_rfl) (by rfl) (by rintro w' ⟨s0,s1,s2⟩;go_simp;with_reducible rfl) (by simp only [Act.put,lA,lZ,lS,iw,jw];rfl) ?_
 refine join_ (σ:=Value × Value × Value × Value × Value) 3 z57q7 (fun s_=>[(3,s_.1),(6,s_.2.1),(7,s_.2.2.1),(10,s_.2.2.2.1),(11,s_.2.2.2.2)]) (fun s_ w'=>(w'.cell? ⟨Bc,0,none⟩=some (.slice A0_0 l0_0.length c0_0)∧w'.cell? ⟨Bc,1,none⟩=some (.slice A0_1 l0_1.length c0_1)∧w'.cell? ⟨Bc,2,none⟩=some (.slice A0_2 l0_2.length c0_2))∧(Kd.R Kd.bool 4 w' w.heap.size (fun k_=>some k_≠(s_.2.2.2.1:Value).ownBlock) s_.2.1 y164)∧(Kd.R Kd.bool 4 w' w.heap.size (fun k_=>some k_≠(s_.2.1:Value).ownBlock) s_.2.2.2.1 y170)∧(Kd.R (Kd.int .i64) 3 w' w.heap.size (fun _=>True) s_.2.2.2.2 y173)∧(w'.heap[Bc]?=some (.cells #[.slice A0_0 l0_0.length c0_0,.slice A0_1 l0_1.length c0_1,.slice A0_2 l0_2.length c0_2] 27 (0,0)))∧(w'.heap[Bd]?=some (.cells #[.slice none 0 0,.slice none 0 0,.slice none 0 0] 27 (0,0)))∧(Below w.heap.size w w')) ?_ ?_
 rotate_left
 ·intro hJ0_3_4_7_8
  refine join_ (σ:=Value × Value × Value × Value) 4 z57q8 (fun s_=>[(3,s_.1),(6,s_.2.1),(7,s_.2.2.1),(10,s_.2.2.2)]) (fun s_ w'=>(w'.cell? ⟨Bc,0,none⟩=some (.slice A0_0 l0_0.length c0_0)∧w'.cell? ⟨Bc,1,none⟩=some (.slice A0_1 l0_1.length c0_1)∧w'.cell? ⟨Bc,2,none⟩=some (.slice A0_2 l0_2.length c0_2))∧(Kd.R Kd.bool 4 w' w.heap.size (fun k_=>some k_≠(s_.2.2.2:Value).ownBlock) s_.2.1 y164)∧(Kd.R Kd.bool 4 w' w.heap.size (fun k_=>some k_≠(s_.2.1:Value).ownBlock) s_.2.2.2 y170)∧(w'.heap[Bc]?=some (.cells #[.slice A0_0 l0_0.length c0_0,.slice A0_1 l0_1.length c0_1,.slice A0_2 l0_2.length c0_2] 27 (0,0)))∧(w'.heap[Bd]?=some (.cells #[.slice none 0 0,.slice none 0 0,.slice none 0 0] 27 (0,0)))∧(Below w.heap.size w w')) ?_ ?_
  rotate_left
  ·intro hJ0_3_4_7
   refine join_ (σ:=Value × Value × Value × Value) 4 z57q9 (fun s_=>[(3,s_.1),(6,s_.2.1),(7,s_.2.2.1),(11,s_.2.2.2)]) (fun s_ w'=>(w'.cell? ⟨Bc,0,none⟩=some (.slice A0_0 l0_0.length c0_0)∧w'.cell? ⟨Bc,1,none⟩=some (.slice A0_1 l0_1.length c0_1)∧w'.cell? ⟨Bc,2,none⟩=some (.slice A0_2 l0_2.length c0_2))∧(Kd.R Kd.bool 4 w' w.heap.size (fun k_=>some k_≠(s_.2.2.1:Value).ownBlock) s_.2.1 y164)∧(Kd.R Kd.bool 4 w' w.heap.size (fun k_=>some k_≠(s_.2.1:Value).ownBlock) s_.2.2.1 y167)∧(Kd.R (Kd.int .i64) 3 w' w.heap.size (fun _=>True) s_.2.2.2 y173)∧(w'.heap[Bc]?=some (.cells #[.slice A0_0 l0_0.length c0_0,.slice A0_1 l0_1.length c0_1,.slice A0_2 l0_2.length c0_2] 27 (0,0)))∧(w'.heap[Bd]?=some (.cells #[.slice none 0 0,.slice none 0 0,.slice none 0 0] 27 (0,0)))∧(Below w.heap.size w w')) ?_ ?_
   rotate_left
   ·intro hJ0_3_4_8
    refine join_ (σ:=Value × Value × Value) 5 z57q10 (fun s_=>[(3,s_.1),(6,s_.2.1),(7,s_.2.2)]) (fun s_ w'=>(w'.cell? ⟨Bc,0,none⟩=some (.slice A0_0 l0_0.length c0_0)∧w'.cell? ⟨Bc,1,none⟩=some (.slice A0_1 l0_1.length c0_1)∧w'.cell? ⟨Bc,2,none⟩=some (.slice A0_2 l0_2.length c0_2))∧(Kd.R Kd.bool 4 w' w.heap.size (fun k_=>some k_≠(s_.2.2:Value).ownBlock) s_.2.1 y164)∧(Kd.R Kd.bool 4 w' w.heap.size (fun k_=>some k_≠(s_.2.1:Value).ownBlock) s_.2.2 y167)∧(w'.heap[Bc]?=some (.cells #[.slice A0_0 l0_0.length c0_0,.slice A0_1 l0_1.length c0_1,.slice A0_2 l0_2.length c0_2] 27 (0,0)))∧(w'.heap[Bd]?=some (.cells #[.slice none 0 0,.slice none 0 0,.slice none 0 0] 27 (0,0)))∧(Below w.heap.size w w')) ?_ ?_
    rotate_left
    ·intro hJ0_3_4
     refine join_ (σ:=Value × Value × Value) 5 z57q11 (fun s_=>[(3,s_.1),(6,s_.2.1),(11,s_.2.2)]) (fun s_ w'=>(w'.cell? ⟨Bc,0,none⟩=some (.slice A0_0 l0_0.length c0_0)∧w'.cell? ⟨Bc,1,none⟩=some (.slice A0_1 l0_1.length c0_1)∧w'.cell? ⟨Bc,2,none⟩=some (.slice A0_2 l0_2.length c0_2))∧(Kd.R Kd.bool 4 w' w.heap.size (fun _=>True) s_.2.1 y164)∧(Kd.R (Kd.int .i64) 3 w' w.heap.size (fun _=>True) s_.2.2 y173)∧(w'.heap[Bc]?=some (.cells #[.slice A0_0 l0_0.length c0_0,.slice A0_1 l0_1.length c0_1,.slice A0_2 l0_2.length c0_2] 27 (0,0)))∧(w'.heap[Bd]?=some (.cells #[.slice none 0 0,.slice none 0 0,.slice none 0 0] 27 (0,0)))∧(Below w.heap.size w w')) ?_ ?_
     rotate_left
     ·intro hJ0_3_8
      refine join_ (σ:=Value × Value × Value) 5 z57q12 (fun s_=>[(3,s_.1),(7,s_.2.1),(11,s_.2.2)]) (fun s_ w'=>(w'.cell? ⟨Bc,0,none⟩=some (.slice A0_0 l0_0.length c0_0)∧w'.cell? ⟨Bc,1,none⟩=some (.slice A0_1 l0_1.length c0_1)∧w'.cell? ⟨Bc,2,none⟩=some (.slice A0_2 l0_2.length c0_2))∧(Kd.R Kd.bool 4 w' w.heap.size (fun k_=>some k_≠(s_.2.1:Value).ownBlock) s_.1 y161)∧(Kd.R Kd.bool 4 w' w.heap.size (fun k_=>some k_≠(s_.1:Value).ownBlock) s_.2.1 y167)∧(Kd.R (Kd.int .i64) 3 w' w.heap.size (fun _=>True) s_.2.2 y173)∧(w'.heap[Bc]?=some (.cells #[.slice A0_0 l0_0.length c0_0,.slice A0_1 l0_1.length c0_1,.slice A0_2 l0_2.length c0_2] 27 (0,0)))∧(w'.heap[Bd]?=some (.cells #[.slice none 0 0,.slice none 0 0,.slice none 0 0] 27 (0,0)))∧(Below w.heap.size w w')) ?_ ?_
      rotate_left
      ·intro hJ0_4_8
       refine join_ (σ:=Value × Value) 6 z57q13 (fun s_=>[(3,s_.1),(6,s_.2)]) (fun s_ w'=>(w'.cell? ⟨Bc,0,none⟩=some (.slice A0_0 l0_0.length c0_0)∧w'.cell? ⟨Bc,1,none⟩=some (.slice A0_1 l0_1.length c0_1)∧w'.cell? ⟨Bc,2,none⟩=some (.slice A0_2 l0_2.length c0_2))∧(Kd.R Kd.bool 4 w' w.heap.size (fun _=>True) s_.2 y164)∧(w'.heap[Bc]?=some (.cells #[.slice A0_0 l0_0.length c0_0,.slice A0_1 l0_1.length c0_1,.slice A0_2 l0_2.length c0_2] 27 (0,0)))∧(w'.heap[Bd]?=some (.cells #[.slice none 0 0,.slice none 0 0,.slice none 0 0] 27 (0,0)))∧(Below w.heap.size w w')) ?_ ?_
       rotate_left
       ·intro hJ0_3
        refine join_ (σ:=Value × Value) 6 z57q14 (fun s_=>[(3,s_.1),(7,s_.2)]) (fun s_ w'=>(w'.cell? ⟨Bc,0,none⟩=some (.slice A0_0 l0_0.length c0_0)∧w'.cell? ⟨Bc,1,none⟩=some (.slice A0_1 l0_1.length c0_1)∧w'.cell? ⟨Bc,2,none⟩=some (.slice A0_2 l0_2.length c0_2))∧(Kd.R Kd.bool 4 w' w.heap.size (fun k_=>some k_≠(s_.2:Value).ownBlock) s_.1 y161)∧(Kd.R Kd.bool 4 w' w.heap.size (fun k_=>some k_≠(s_.1:Value).ownBlock) s_.2 y167)∧(w'.heap[Bc]?=some (.cells #[.slice A0_0 l0_0.length c0_0,.slice A0_1 l0_1.length c0_1,.slice A0_2 l0_2.length c0_2] 27 (0,0)))∧(w'.heap[Bd]?=some (.cells #[.slice none 0 0,.slice none 0 0,.slice none 0 0] 27 (0,0)))∧(Below w.heap.size w w')) ?_ ?_
        rotate_left
        ·intro hJ0_4
         refine join_ (σ:=Value × Value) 6 z57q15 (fun s_=>[(3,s_.1),(11,s_.2)]) (fun s_ w'=>(w'.cell? ⟨Bc,0,none⟩=some (.slice A0_0 l0_0.length c0_0)∧w'.cell? ⟨Bc,1,none⟩=some (.slice A0_1 l0_1.length c0_1)∧w'.cell? ⟨Bc,2,none⟩=some (.slice A0_2 l0_2.length c0_2))∧(Kd.R Kd.bool 4 w' w.heap.size (fun _=>True) s_.1 y161)∧(Kd.R (Kd.int .i64) 3 w' w.heap.size (fun _=>True) s_.2 y173)∧(w'.heap[Bc]?=some (.cells #[.slice A0_0 l0_0.length c0_0,.slice A0_1 l0_1.length c0_1,.slice A0_2 l0_2.length c0_2] 27 (0,0)))∧(w'.heap[Bd]?=some (.cells #[.slice none 0 0,.slice none 0 0,.slice none 0 0] 27 (0,0)))∧(Below w.heap.size w w')) ?_ ?_
         rotate_left
         ·intro hJ0_8
          refine join_ (σ:=Value × Value) 6 z57q16 (fun s_=>[(7,s_.1),(11,s_.2)]) (fun s_ w'=>(w'.cell? ⟨Bc,0,none⟩=some (.slice A0_0 l0_0.length c0_0)∧w'.cell? ⟨Bc,1,none⟩=some (.slice A0_1 l0_1.length c0_1)∧w'.cell? ⟨Bc,2,none⟩=some (.slice A0_2 l0_2.length c0_2))∧(Kd.R Kd.bool 4 w' w.heap.size (fun _=>True) s_.1 y167)∧(Kd.R (Kd.int .i64) 3 w' w.heap.size (fun _=>True) s_.2 y173)∧(w'.heap[Bc]?=some (.cells #[.slice A0_0 l0_0.length c0_0,.slice A0_1 l0_1.length c0_1,.slice A0_2 l0_2.length c0_2] 27 (0,0)))∧(w'.heap[Bd]?=some (.cells #[.slice none 0 0,.slice none 0 0,.slice none 0 0] 27 (0,0)))∧(Below w.heap.size w w')) ?_ ?_
          rotate_left
          ·intro hJ4_8
           refine join_ (σ:=Value) 7 z57q17 (fun s_=>[(3,s_)]) (fun s_ w'=>(w'.cell? ⟨Bc,0,none⟩=some (.slice A0_0 l0_0.length c0_0)∧w'.cell? ⟨Bc,1,none⟩=some (.slice A0_1 l0_1.length c0_1)∧w'.cell? ⟨Bc,2,none⟩=some (.slice A0_2 l0_2.length c0_2))∧(Kd.R Kd.bool 4 w' w.heap.size (fun _=>True) s_ y161)∧(w'.heap[Bc]?=some (.cells #[.slice A0_0 l0_0.length c0_0,.slice A0_1 l0_1.length c0_1,.slice A0_2 l0_2.length c0_2] 27 (0,0)))∧(w'.heap[Bd]?=some (.cells #[.slice none 0 0,.slice none 0 0,.slice none 0 0] 27 (0,0)))∧(Below w.heap.size w w')) ?_ ?_
           rotate_left
           ·intro hJ0
            refine join_ (σ:=Value) 7 z57q18 (fun s_=>[(7,s_)]) (fun s_ w'=>(w'.cell? ⟨Bc,0,none⟩=some (.slice A0_0 l0_0.length c0_0)∧w'.cell? ⟨Bc,1,none⟩=some (.slice A0_1 l0_1.length c0_1)∧w'.cell? ⟨Bc,2,none⟩=some (.slice A0_2 l0_2.length c0_2))∧(Kd.R Kd.bool 4 w' w.heap.size (fun _=>True) s_ y167)∧(w'.heap[Bc]?=some (.cells #[.slice A0_0 l0_0.length c0_0,.slice A0_1 l0_1.length c0_1,.slice A0_2 l0_2.length c0_2] 27 (0,0)))∧(w'.heap[Bd]?=some (.cells #[.slice none 0 0,.slice none 0 0,.slice none 0 0] 27 (0,0)))∧(Below w.heap.size w w')) ?_ ?_
            rotate_left
            ·intro hJ4
             refine join_ (σ:=Value) 7 z57q19 (fun s_=>[(11,s_)]) (fun s_ w'=>(w'.cell? ⟨Bc,0,none⟩=some (.slice A0_0 l0_0.length c0_0)∧w'.cell? ⟨Bc,1,none⟩=some (.slice A0_1 l0_1.length c0_1)∧w'.cell? ⟨Bc,2,none⟩=some (.slice A0_2 l0_2.length c0_2))∧(Kd.R (Kd.int .i64) 3 w' w.heap.size (fun _=>True) s_ y173)∧(w'.heap[Bc]?=some (.cells #[.slice A0_0 l0_0.length c0_0,.slice A0_1 l0_1.length c0_1,.slice A0_2 l0_2.length c0_2] 27 (0,0)))∧(w'.heap[Bd]?=some (.cells #[.slice none 0 0,.slice none 0 0,.slice none 0 0] 27 (0,0)))∧(Below w.heap.size w w')) ?_ ?_
             rotate_left
             ·intro hJ8
              refine three_ (i:=0) (j:=4) (k:=8) (Ni:=some 3) (Nj:=some 7) (Nk:=some 11) z57q17 z57q18 z57q19 rfl rfl rfl rfl rfl rfl (three_of HT_.out (by kernel_rfl)) (by decide) (by decide) (by decide) (fun K hK=>?_) (fun K hK=>?_) (fun K hK=>?_)
              ·skip
               refine Kd.R_lit_step Kd.bool _ 4 ?hg (N:=3) ?hd (xs:=([]:List Bool)) (inner:=[]) (ok:=fun _=>True) (okp:=fun _=>True) ?hr ?hp (fun _ hk=>hk) trivial (bJ _ _) (nR _) (by simp) ?_;(case hd=>rfl);(case hg=>rfl);(case hr=>first|(go_simp;done)|(go_simp;rfl));(case hp=>exact (Reps.none _ _))
               intro v162 w8 ho9 hb hg_ hnew_
               clear hg_ hnew_
               (first|rw [← Ny161.out] at ho9|(simp only [Int.reduceToNat] at ho9;rw [← Ny161.out] at ho9))
               have n0_:=Am (rW ho9 (bZ (by repeat (first|(with_reducible first|exact HB.out|apply oA|apply pN|apply o1|refine bS ?_ Be.out|refine bS ?_ Bf.out)|exact HB.out))))
               have n1_:=Am (bX Ba.out hb)
               have n2_:=Am (bX Bb.out hb)
               have n3_:=Am (bP (by repeat (first|(with_reducible first|exact HB.out|apply oA|apply pN|apply o1|refine bS ?_ Be.out|refine bS ?_ Bf.out)|exact HB.out)) hb)
               clear Ba
               clear Bb
               clear HB
               have Bj:=n0_
               have Ba:=n1_
               have Bb:=n2_
               have HB:=n3_
               clear n0_ n1_ n2_ n3_
               clear hb ho9
               refine hK.out _ _ ⟨(bC Ba.out 0).trans rfl,(bC Ba.out 1).trans rfl,(bC Ba.out 2).trans rfl⟩ (fun hHeld=>?_)
               clear hK K
               refine norm_ (by show Act.put _ (some 3) _=_;simp only [Act.put,lA,lZ,lS,iw,jw];rfl) ?_
               exact norm_ (by first|(simp only [putAll,Act.put,lA,lZ,lS];done)|(simp only [putAll,Act.put,lA,lZ,lS];rfl)) (hJ0 (v162) _ ⟨hHeld,(rL Bj.out),(bL Ba.out),(bL Bb.out),(by repeat (first|(with_reducible first|exact HB.out|apply oA|apply pN|apply o1|refine bS ?_ Be.out|refine bS ?_ Bf.out)|exact HB.out))⟩)
              ·skip
               refine Kd.R_lit_step Kd.bool _ 4 ?hg (N:=7) ?hd (xs:=([]:List Bool)) (inner:=[]) (ok:=fun _=>True) (okp:=fun _=>True) ?hr ?hp (fun _ hk=>hk) trivial (bJ _ _) (nR _) (by simp) ?_;(case hd=>rfl);(case hg=>rfl);(case hr=>first|(go_simp;done)|(go_simp;rfl));(case hp=>exact (Reps.none _ _))
               intro v168 w8 ho9 hb hg_ hnew_
               clear hg_ hnew_
               (first|rw [← Ny167.out] at ho9|(simp only [Int.reduceToNat] at ho9;rw [← Ny167.out] at ho9))
               have n0_:=Am (rW ho9 (bZ (by repeat (first|(with_reducible first|exact HB.out|apply oA|apply pN|apply o1|refine bS ?_ Be.out|refine bS ?_ Bf.out)|exact HB.out))))
               have n1_:=Am (bX Ba.out hb)
               have n2_:=Am (bX Bb.out hb)
               have n3_:=Am (bP (by repeat (first|(with_reducible first|exact HB.out|apply oA|apply pN|apply o1|refine bS ?_ Be.out|refine bS ?_ Bf.out)|exact HB.out)) hb)
               clear Ba
               clear Bb
               clear HB
               have Bg:=n0_
               have Ba:=n1_
               have Bb:=n2_
               have HB:=n3_
               clear n0_ n1_ n2_ n3_
               clear hb ho9
               refine hK.out _ _ ⟨(bC Ba.out 0).trans rfl,(bC Ba.out 1).trans rfl,(bC Ba.out 2).trans rfl⟩ (fun hHeld=>?_)
               clear hK K
               refine norm_ (by show Act.put _ (some 7) _=_;simp only [Act.put,lA,lZ,lS,iw,jw];rfl) ?_
               exact norm_ (by first|(simp only [putAll,Act.put,lA,lZ,lS];done)|(simp only [putAll,Act.put,lA,lZ,lS];rfl)) (hJ4 (v168) _ ⟨hHeld,(rL Bg.out),(bL Ba.out),(bL Bb.out),(by repeat (first|(with_reducible first|exact HB.out|apply oA|apply pN|apply o1|refine bS ?_ Be.out|refine bS ?_ Bf.out)|exact HB.out))⟩)
              ·skip
               refine Kd.R_lit_step (Kd.int .i64) _ 3 ?hg (N:=11) ?hd (xs:=([]:List Int)) (inner:=[]) (ok:=fun _=>True) (okp:=fun _=>True) ?hr ?hp (fun _ hk=>hk) trivial (bJ _ _) (nR _) (by simp) ?_;(case hd=>rfl);(case hg=>rfl);(case hr=>first|(go_simp;done)|(go_simp;rfl));(case hp=>exact (Reps.none _ _))
               intro v174 w8 ho9 hb hg_ hnew_
               clear hg_ hnew_
               (first|rw [← Ny173.out] at ho9|(simp only [Int.reduceToNat] at ho9;rw [← Ny173.out] at ho9))
               have n0_:=Am (rW ho9 (bZ (by repeat (first|(with_reducible first|exact HB.out|apply oA|apply pN|apply o1|refine bS ?_ Be.out|refine bS ?_ Bf.out)|exact HB.out))))
               have n1_:=Am (bX Ba.out hb)
               have n2_:=Am (bX Bb.out hb)
               have n3_:=Am (bP (by repeat (first|(with_reducible first|exact HB.out|apply oA|apply pN|apply o1|refine bS ?_ Be.out|refine bS ?_ Bf.out)|exact HB.out)) hb)
               clear Ba
               clear Bb
               clear HB
               have Bh:=n0_
               have Ba:=n1_
               have Bb:=n2_
               have HB:=n3_
               clear n0_ n1_ n2_ n3_
               clear hb ho9
               refine hK.out _ _ ⟨(bC Ba.out 0).trans rfl,(bC Ba.out 1).trans rfl,(bC Ba.out 2).trans rfl⟩ (fun hHeld=>?_)
               clear hK K
               refine norm_ (by show Act.put _ (some 11) _=_;simp only [Act.put,lA,lZ,lS,iw,jw];rfl) ?_
               exact norm_ (by first|(simp only [putAll,Act.put,lA,lZ,lS];done)|(simp only [putAll,Act.put,lA,lZ,lS];rfl)) (hJ8 (v174) _ ⟨hHeld,(rL Bh.out),(bL Ba.out),(bL Bb.out),(by repeat (first|(with_reducible first|exact HB.out|apply oA|apply pN|apply o1|refine bS ?_ Be.out|refine bS ?_ Bf.out)|exact HB.out))⟩)
             ·skip
              rintro v174 w10 ⟨hS_,h0_,h1_,h2_,h3_⟩
              have n0_:Aside0 (Kd.R (Kd.int .i64) 3 w10 w.heap.size (fun _=>True) v174 y173):=⟨h0_⟩
              have n1_:Aside0 (w10.heap[Bc]?=some (.cells #[.slice A0_0 l0_0.length c0_0,.slice A0_1 l0_1.length c0_1,.slice A0_2 l0_2.length c0_2] 27 (0,0))):=⟨h1_⟩
              have n2_:Aside0 (w10.heap[Bd]?=some (.cells #[.slice none 0 0,.slice none 0 0,.slice none 0 0] 27 (0,0))):=⟨h2_⟩
              have n3_:Aside0 (Below w.heap.size w w10):=⟨h3_⟩
              clear Ba
              clear Bb
              clear HB
              clear h0_ h1_ h2_ h3_
              have Bh:=n0_
              have Ba:=n1_
              have Bb:=n2_
              have HB:=n3_
              clear n0_ n1_ n2_ n3_
              have hHeld:w10.cell? ⟨Bc,0,none⟩=some (.slice A0_0 l0_0.length c0_0)∧w10.cell? ⟨Bc,1,none⟩=some (.slice A0_1 l0_1.length c0_1)∧w10.cell? ⟨Bc,2,none⟩=some (.slice A0_2 l0_2.length c0_2):=hS_
              refine norm_ (by simp only [putAll,Act.put,lA,lZ,lS];rfl) ?_
              refine two_ (i:=0) (j:=4) (Ni:=some 3) (Nj:=some 7) z57q15 z57q16 rfl rfl rfl rfl (two_of HT_.out (by kernel_rfl)) (by decide) (by decide) (fun K hK=>?_) (fun K hK=>?_)
              ·skip
               refine Kd.R_lit_step Kd.bool _ 4 ?hg (N:=3) ?hd (xs:=([]:List Bool)) (inner:=[]) (ok:=fun _=>True) (okp:=fun _=>True) ?hr ?hp (fun _ hk=>hk) trivial (bJ _ _) (nR _) (by simp) ?_;(case hd=>rfl);(case hg=>rfl);(case hr=>first|(go_simp;done)|(go_simp;rfl));(case hp=>exact (Reps.none _ _))
               intro v162 w11 ho12 hb hg_ hnew_
               clear hg_ hnew_
               (first|rw [← Ny161.out] at ho12|(simp only [Int.reduceToNat] at ho12;rw [← Ny161.out] at ho12))
               have n0_:=Am (rB (rL Bh.out) hb)
               have n1_:=Am (rW ho12 (bZ (by repeat (first|(with_reducible first|exact HB.out|apply oA|apply pN|apply o1|refine bS ?_ Be.out|refine bS ?_ Bf.out)|exact HB.out))))
               have n2_:=Am (bX Ba.out hb)
               have n3_:=Am (bX Bb.out hb)
               have n4_:=Am (bP (by repeat (first|(with_reducible first|exact HB.out|apply oA|apply pN|apply o1|refine bS ?_ Be.out|refine bS ?_ Bf.out)|exact HB.out)) hb)
               clear Bh
               clear Ba
               clear Bb
               clear HB
               have Bh:=n0_
               have Bj:=n1_
               have Ba:=n2_
               have Bb:=n3_
               have HB:=n4_
               clear n0_ n1_ n2_ n3_ n4_
               clear hb ho12
               refine hK.out _ _ ⟨(bC Ba.out 0).trans rfl,(bC Ba.out 1).trans rfl,(bC Ba.out 2).trans rfl⟩ (fun hHeld=>?_)
               clear hK K
               refine norm_ (by show Act.put _ (some 3) _=_;simp only [Act.put,lA,lZ,lS,iw,jw];rfl) ?_
               exact norm_ (by first|(simp only [putAll,Act.put,lA,lZ,lS];done)|(simp only [putAll,Act.put,lA,lZ,lS];rfl)) (hJ0_8 (v162,v174) _ ⟨hHeld,(rL Bj.out),(rL Bh.out),(bL Ba.out),(bL Bb.out),(by repeat (first|(with_reducible first|exact HB.out|apply oA|apply pN|apply o1|refine bS ?_ Be.out|refine bS ?_ Bf.out)|exact HB.out))⟩)
              ·skip
               refine Kd.R_lit_step Kd.bool _ 4 ?hg (N:=7) ?hd (xs:=([]:List Bool)) (inner:=[]) (ok:=fun _=>True) (okp:=fun _=>True) ?hr ?hp (fun _ hk=>hk) trivial (bJ _ _) (nR _) (by simp) ?_;(case hd=>rfl);(case hg=>rfl);(case hr=>first|(go_simp;done)|(go_simp;rfl));(case hp=>exact (Reps.none _ _))
               intro v168 w11 ho12 hb hg_ hnew_
               clear hg_ hnew_
               (first|rw [← Ny167.out] at ho12|(simp only [Int.reduceToNat] at ho12;rw [← Ny167.out] at ho12))
               have n0_:=Am (rB (rL Bh.out) hb)
               have n1_:=Am (rW ho12 (bZ (by repeat (first|(with_reducible first|exact HB.out|apply oA|apply pN|apply o1|refine bS ?_ Be.out|refine bS ?_ Bf.out)|exact HB.out))))
               have n2_:=Am (bX Ba.out hb)
               have n3_:=Am (bX Bb.out hb)
               have n4_:=Am (bP (by repeat (first|(with_reducible first|exact HB.out|apply oA|apply pN|apply o1|refine bS ?_ Be.out|refine bS ?_ Bf.out)|exact HB.out)) hb)
               clear Bh
               clear Ba
               clear Bb
               clear HB
               have Bh:=n0_
               have Bg:=n1_
               have Ba:=n2_
               have Bb:=n3_
               have HB:=n4_
               clear n0_ n1_ n2_ n3_ n4_
               clear hb ho12
               refine hK.out _ _ ⟨(bC Ba.out 0).trans rfl,(bC Ba.out 1).trans rfl,(bC Ba.out 2).trans rfl⟩ (fun hHeld=>?_)
               clear hK K
               refine norm_ (by show Act.put _ (some 7) _=_;simp only [Act.put,lA,lZ,lS,iw,jw];rfl) ?_
               exact norm_ (by first|(simp only [putAll,Act.put,lA,lZ,lS];done)|(simp only [putAll,Act.put,lA,lZ,lS];rfl)) (hJ4_8 (v168,v174) _ ⟨hHeld,(rL Bg.out),(rL Bh.out),(bL Ba.out),(bL Bb.out),(by repeat (first|(with_reducible first|exact HB.out|apply oA|apply pN|apply o1|refine bS ?_ Be.out|refine bS ?_ Bf.out)|exact HB.out))⟩)
            ·skip
             rintro v168 w10 ⟨hS_,h0_,h1_,h2_,h3_⟩
             have n0_:Aside0 (Kd.R Kd.bool 4 w10 w.heap.size (fun _=>True) v168 y167):=⟨h0_⟩
             have n1_:Aside0 (w10.heap[Bc]?=some (.cells #[.slice A0_0 l0_0.length c0_0,.slice A0_1 l0_1.length c0_1,.slice A0_2 l0_2.length c0_2] 27 (0,0))):=⟨h1_⟩
             have n2_:Aside0 (w10.heap[Bd]?=some (.cells #[.slice none 0 0,.slice none 0 0,.slice none 0 0] 27 (0,0))):=⟨h2_⟩
             have n3_:Aside0 (Below w.heap.size w w10):=⟨h3_⟩
             clear Ba
             clear Bb
             clear HB
             clear h0_ h1_ h2_ h3_
             have Bg:=n0_
             have Ba:=n1_
             have Bb:=n2_
             have HB:=n3_
             clear n0_ n1_ n2_ n3_
             have hHeld:w10.cell? ⟨Bc,0,none⟩=some (.slice A0_0 l0_0.length c0_0)∧w10.cell? ⟨Bc,1,none⟩=some (.slice A0_1 l0_1.length c0_1)∧w10.cell? ⟨Bc,2,none⟩=some (.slice A0_2 l0_2.length c0_2):=hS_
             refine norm_ (by simp only [putAll,Act.put,lA,lZ,lS];rfl) ?_
             refine two_ (i:=0) (j:=8) (Ni:=some 3) (Nj:=some 11) z57q14 z57q16 rfl rfl rfl rfl (two_of HT_.out (by kernel_rfl)) (by decide) (by decide) (fun K hK=>?_) (fun K hK=>?_)
             ·skip
              refine Kd.R_lit_step Kd.bool _ 4 ?hg (N:=3) ?hd (xs:=([]:List Bool)) (inner:=[]) (ok:=fun _=>True) (okp:=fun _=>True) ?hr ?hp (fun _ hk=>hk) trivial (bJ _ _) (nR _) (by simp) ?_;(case hd=>rfl);(case hg=>rfl);(case hr=>first|(go_simp;done)|(go_simp;rfl));(case hp=>exact (Reps.none _ _))
              intro v162 w11 ho12 hb hg_ hnew_
              clear hg_ hnew_
              (first|rw [← Ny161.out] at ho12|(simp only [Int.reduceToNat] at ho12;rw [← Ny161.out] at ho12))
              have n0_:=Am (rX (rL Bg.out) (rZ ho12) hb)
              have n1_:=Am (rW (rQ ho12 (rI (rL Bg.out))) (bZ (by repeat (first|(with_reducible first|exact HB.out|apply oA|apply pN|apply o1|refine bS ?_ Be.out|refine bS ?_ Bf.out)|exact HB.out))))
              have n2_:=Am (bX Ba.out hb)
              have n3_:=Am (bX Bb.out hb)
              have n4_:=Am (bP (by repeat (first|(with_reducible first|exact HB.out|apply oA|apply pN|apply o1|refine bS ?_ Be.out|refine bS ?_ Bf.out)|exact HB.out)) hb)
              clear Bg
              clear Ba
              clear Bb
              clear HB
              have Bg:=n0_
              have Bj:=n1_
              have Ba:=n2_
              have Bb:=n3_
              have HB:=n4_
              clear n0_ n1_ n2_ n3_ n4_
              clear hb ho12
              refine hK.out _ _ ⟨(bC Ba.out 0).trans rfl,(bC Ba.out 1).trans rfl,(bC Ba.out 2).trans rfl⟩ (fun hHeld=>?_)
              clear hK K
              refine norm_ (by show Act.put _ (some 3) _=_;simp only [Act.put,lA,lZ,lS,iw,jw];rfl) ?_
              exact norm_ (by first|(simp only [putAll,Act.put,lA,lZ,lS];done)|(simp only [putAll,Act.put,lA,lZ,lS];rfl)) (hJ0_4 (v162,v168) _ ⟨hHeld,(by (with_reducible repeat (first|apply rA|apply rN|apply rD));exact rM Bj.out (fun _ hk=>hk.2)),(by (with_reducible repeat (first|apply rA|apply rN|apply rD));exact rM Bg.out (fun _ hk=>hk.2)),(bL Ba.out),(bL Bb.out),(by repeat (first|(with_reducible first|exact HB.out|apply oA|apply pN|apply o1|refine bS ?_ Be.out|refine bS ?_ Bf.out)|exact HB.out))⟩)
             ·skip
              refine Kd.R_lit_step (Kd.int .i64) _ 3 ?hg (N:=11) ?hd (xs:=([]:List Int)) (inner:=[]) (ok:=fun _=>True) (okp:=fun _=>True) ?hr ?hp (fun _ hk=>hk) trivial (bJ _ _) (nR _) (by simp) ?_;(case hd=>rfl);(case hg=>rfl);(case hr=>first|(go_simp;done)|(go_simp;rfl));(case hp=>exact (Reps.none _ _))
              intro v174 w11 ho12 hb hg_ hnew_
              clear hg_ hnew_
              (first|rw [← Ny173.out] at ho12|(simp only [Int.reduceToNat] at ho12;rw [← Ny173.out] at ho12))
              have n0_:=Am (rB (rL Bg.out) hb)
              have n1_:=Am (rW ho12 (bZ (by repeat (first|(with_reducible first|exact HB.out|apply oA|apply pN|apply o1|refine bS ?_ Be.out|refine bS ?_ Bf.out)|exact HB.out))))
              have n2_:=Am (bX Ba.out hb)
              have n3_:=Am (bX Bb.out hb)
              have n4_:=Am (bP (by repeat (first|(with_reducible first|exact HB.out|apply oA|apply pN|apply o1|refine bS ?_ Be.out|refine bS ?_ Bf.out)|exact HB.out)) hb)
              clear Bg
              clear Ba
              clear Bb
              clear HB
              have Bg:=n0_
              have Bh:=n1_
              have Ba:=n2_
              have Bb:=n3_
              have HB:=n4_
              clear n0_ n1_ n2_ n3_ n4_
              clear hb ho12
              refine hK.out _ _ ⟨(bC Ba.out 0).trans rfl,(bC Ba.out 1).trans rfl,(bC Ba.out 2).trans rfl⟩ (fun hHeld=>?_)
              clear hK K
              refine norm_ (by show Act.put _ (some 11) _=_;simp only [Act.put,lA,lZ,lS,iw,jw];rfl) ?_
              exact norm_ (by first|(simp only [putAll,Act.put,lA,lZ,lS];done)|(simp only [putAll,Act.put,lA,lZ,lS];rfl)) (hJ4_8 (v168,v174) _ ⟨hHeld,(rL Bg.out),(rL Bh.out),(bL Ba.out),(bL Bb.out),(by repeat (first|(with_reducible first|exact HB.out|apply oA|apply pN|apply o1|refine bS ?_ Be.out|refine bS ?_ Bf.out)|exact HB.out))⟩)
           ·skip
            rintro v162 w10 ⟨hS_,h0_,h1_,h2_,h3_⟩
            have n0_:Aside0 (Kd.R Kd.bool 4 w10 w.heap.size (fun _=>True) v162 y161):=⟨h0_⟩
            have n1_:Aside0 (w10.heap[Bc]?=some (.cells #[.slice A0_0 l0_0.length c0_0,.slice A0_1 l0_1.length c0_1,.slice A0_2 l0_2.length c0_2] 27 (0,0))):=⟨h1_⟩
            have n2_:Aside0 (w10.heap[Bd]?=some (.cells #[.slice none 0 0,.slice none 0 0,.slice none 0 0] 27 (0,0))):=⟨h2_⟩
            have n3_:Aside0 (Below w.heap.size w w10):=⟨h3_⟩
            clear Ba
            clear Bb
            clear HB
            clear h0_ h1_ h2_ h3_
            have Bj:=n0_
            have Ba:=n1_
            have Bb:=n2_
            have HB:=n3_
            clear n0_ n1_ n2_ n3_
            have hHeld:w10.cell? ⟨Bc,0,none⟩=some (.slice A0_0 l0_0.length c0_0)∧w10.cell? ⟨Bc,1,none⟩=some (.slice A0_1 l0_1.length c0_1)∧w10.cell? ⟨Bc,2,none⟩=some (.slice A0_2 l0_2.length c0_2):=hS_
            refine norm_ (by simp only [putAll,Act.put,lA,lZ,lS];rfl) ?_
            refine three_ (i:=3) (j:=4) (k:=8) (Ni:=some 6) (Nj:=some 7) (Nk:=some 11) z57q13 z57q14 z57q15 rfl rfl rfl rfl rfl rfl (three_of HT_.out (by kernel_rfl)) (by decide) (by decide) (by decide) (fun K hK=>?_) (fun K hK=>?_) (fun K hK=>?_)
            ·skip
             refine Kd.R_append_rows_step Kd.bool (w0:=w) w.heap.size (by rfl) (.tmp 3) (.tmp 5) 22 4 (.bool false) 1 rfl Try.underlying22 info4 rfl (by decide) (by omega) v162 y161 l0_0 _ _ _ (fun _=>True) (fun _=>False) rfl rfl ?aO ?aR (fun _ _ h=>h) (fun _ h=>h.elim) ?aF ?aB ?aS ?aL ?_
             (case aR=>repeat (first|exact (cB HR0_0.out HB.out)|(with_reducible refine cA ?_ _)|(with_reducible refine cN ?_ _)|(with_reducible refine cD ?_)))
             (case aB=>exact (by repeat (first|(with_reducible first|exact HB.out|apply oA|apply pN|apply o1|refine bS ?_ Be.out|refine bS ?_ Bf.out)|exact HB.out)))
             (case aF=>exact (fun _ _=>trivial))
             (case aO=>exact (rL Bj.out))
             (case aS=>exact (bZ (by repeat (first|(with_reducible first|exact HB.out|apply oA|apply pN|apply o1|refine bS ?_ Be.out|refine bS ?_ Bf.out)|exact HB.out))))
             (case aL=>have:=LMc2.out;omega)
             intro v165 w11 ho hb hg hat
             rw [← Ny164.out] at ho
             have n0_:=Am (bG (g:=Bc) (o:=.cells #[.slice A0_0 l0_0.length c0_0,.slice A0_1 l0_1.length c0_1,.slice A0_2 l0_2.length c0_2] 27 (0,0)) (bL Ba.out) hg (rE Bj.out Ba.out (by decide)))
             have n1_:=Am (bG (g:=Bd) (o:=.cells #[.slice none 0 0,.slice none 0 0,.slice none 0 0] 27 (0,0)) (bL Bb.out) hg (rE Bj.out Bb.out (by decide)))
             have n2_:=Am (hb)
             have n3_:=Am (ho)
             clear Ba
             clear Bb
             clear HB
             clear Bj
             have Ba:=n0_
             have Bb:=n1_
             have HB:=n2_
             have Bi:=n3_
             clear n0_ n1_ n2_ n3_
             clear ho hb hg hat
             refine hK.out _ _ ⟨(bC Ba.out 0).trans rfl,(bC Ba.out 1).trans rfl,(bC Ba.out 2).trans rfl⟩ (fun hHeld=>?_)
             clear hK K
             refine norm_ (by show Act.put _ (some 6) _=_;simp only [Act.put,lA,lZ,lS,iw,jw];rfl) ?_
             exact norm_ (by first|(simp only [putAll,Act.put,lA,lZ,lS];done)|(simp only [putAll,Act.put,lA,lZ,lS];rfl)) (hJ0_3 (v162,v165) _ ⟨hHeld,(rL Bi.out),(bL Ba.out),(bL Bb.out),(by repeat (first|(with_reducible first|exact HB.out|apply oA|apply pN|apply o1|refine bS ?_ Be.out|refine bS ?_ Bf.out)|exact HB.out))⟩)
            ·skip
             refine Kd.R_lit_step Kd.bool _ 4 ?hg (N:=7) ?hd (xs:=([]:List Bool)) (inner:=[]) (ok:=fun _=>True) (okp:=fun _=>True) ?hr ?hp (fun _ hk=>hk) trivial (bJ _ _) (nR _) (by simp) ?_;(case hd=>rfl);(case hg=>rfl);(case hr=>first|(go_simp;done)|(go_simp;rfl));(case hp=>exact (Reps.none _ _))
             intro v168 w11 ho12 hb hg_ hnew_
             clear hg_ hnew_
             (first|rw [← Ny167.out] at ho12|(simp only [Int.reduceToNat] at ho12;rw [← Ny167.out] at ho12))
             have n0_:=Am (rX (rL Bj.out) (rZ ho12) hb)
             have n1_:=Am (rW (rQ ho12 (rI (rL Bj.out))) (bZ (by repeat (first|(with_reducible first|exact HB.out|apply oA|apply pN|apply o1|refine bS ?_ Be.out|refine bS ?_ Bf.out)|exact HB.out))))
             have n2_:=Am (bX Ba.out hb)
             have n3_:=Am (bX Bb.out hb)
             have n4_:=Am (bP (by repeat (first|(with_reducible first|exact HB.out|apply oA|apply pN|apply o1|refine bS ?_ Be.out|refine bS ?_ Bf.out)|exact HB.out)) hb)
             clear Bj
             clear Ba
             clear Bb
             clear HB
             have Bj:=n0_
             have Bg:=n1_
             have Ba:=n2_
             have Bb:=n3_
             have HB:=n4_
             clear n0_ n1_ n2_ n3_ n4_
             clear hb ho12
             refine hK.out _ _ ⟨(bC Ba.out 0).trans rfl,(bC Ba.out 1).trans rfl,(bC Ba.out 2).trans rfl⟩ (fun hHeld=>?_)
             clear hK K
             refine norm_ (by show Act.put _ (some 7) _=_;simp only [Act.put,lA,lZ,lS,iw,jw];rfl) ?_
             exact norm_ (by first|(simp only [putAll,Act.put,lA,lZ,lS];done)|(simp only [putAll,Act.put,lA,lZ,lS];rfl)) (hJ0_4 (v162,v168) _ ⟨hHeld,(by (with_reducible repeat (first|apply rA|apply rN|apply rD));exact rM Bj.out (fun _ hk=>hk.2)),(by (with_reducible repeat (first|apply rA|apply rN|apply rD));exact rM Bg.out (fun _ hk=>hk.2)),(bL Ba.out),(bL Bb.out),(by repeat (first|(with_reducible first|exact HB.out|apply oA|apply pN|apply o1|refine bS ?_ Be.out|refine bS ?_ Bf.out)|exact HB.out))⟩)
            ·skip
             refine Kd.R_lit_step (Kd.int .i64) _ 3 ?hg (N:=11) ?hd (xs:=([]:List Int)) (inner:=[]) (ok:=fun _=>True) (okp:=fun _=>True) ?hr ?hp (fun _ hk=>hk) trivial (bJ _ _) (nR _) (by simp) ?_;(case hd=>rfl);(case hg=>rfl);(case hr=>first|(go_simp;done)|(go_simp;rfl));(case hp=>exact (Reps.none _ _))
             intro v174 w11 ho12 hb hg_ hnew_
             clear hg_ hnew_
             (first|rw [← Ny173.out] at ho12|(simp only [Int.reduceToNat] at ho12;rw [← Ny173.out] at ho12))
             have n0_:=Am (rB (rL Bj.out) hb)
             have n1_:=Am (rW ho12 (bZ (by repeat (first|(with_reducible first|exact HB.out|apply oA|apply pN|apply o1|refine bS ?_ Be.out|refine bS ?_ Bf.out)|exact HB.out))))
             have n2_:=Am (bX Ba.out hb)
             have n3_:=Am (bX Bb.out hb)
             have n4_:=Am (bP (by repeat (first|(with_reducible first|exact HB.out|apply oA|apply pN|apply o1|refine bS ?_ Be.out|refine bS ?_ Bf.out)|exact HB.out)) hb)
             clear Bj
             clear Ba
             clear Bb
             clear HB
             have Bj:=n0_
             have Bh:=n1_
             have Ba:=n2_
             have Bb:=n3_
             have HB:=n4_
             clear n0_ n1_ n2_ n3_ n4_
             clear hb ho12
             refine hK.out _ _ ⟨(bC Ba.out 0).trans rfl,(bC Ba.out 1).trans rfl,(bC Ba.out 2).trans rfl⟩ (fun hHeld=>?_)
             clear hK K
             refine norm_ (by show Act.put _ (some 11) _=_;simp only [Act.put,lA,lZ,lS,iw,jw];rfl) ?_
             exact norm_ (by first|(simp only [putAll,Act.put,lA,lZ,lS];done)|(simp only [putAll,Act.put,lA,lZ,lS];rfl)) (hJ0_8 (v162,v174) _ ⟨hHeld,(rL Bj.out),(rL Bh.out),(bL Ba.out),(bL Bb.out),(by repeat (first|(with_reducible first|exact HB.out|apply oA|apply pN|apply o1|refine bS ?_ Be.out|refine bS ?_ Bf.out)|exact HB.out))⟩)
          ·skip
           rintro ⟨v168,v174⟩ w12 ⟨hS_,h0_,h1_,h2_,h3_,h4_⟩
           have n0_:Aside0 (Kd.R Kd.bool 4 w12 w.heap.size (fun _=>True) v168 y167):=⟨h0_⟩
           have n1_:Aside0 (Kd.R (Kd.int .i64) 3 w12 w.heap.size (fun _=>True) v174 y173):=⟨h1_⟩
           have n2_:Aside0 (w12.heap[Bc]?=some (.cells #[.slice A0_0 l0_0.length c0_0,.slice A0_1 l0_1.length c0_1,.slice A0_2 l0_2.length c0_2] 27 (0,0))):=⟨h2_⟩
           have n3_:Aside0 (w12.heap[Bd]?=some (.cells #[.slice none 0 0,.slice none 0 0,.slice none 0 0] 27 (0,0))):=⟨h3_⟩
           have n4_:Aside0 (Below w.heap.size w w12):=⟨h4_⟩
           clear Ba
           clear Bb
           clear HB
           clear h0_ h1_ h2_ h3_ h4_
           have Bg:=n0_
           have Bh:=n1_
           have Ba:=n2_
           have Bb:=n3_
           have HB:=n4_
           clear n0_ n1_ n2_ n3_ n4_
           have hHeld:w12.cell? ⟨Bc,0,none⟩=some (.slice A0_0 l0_0.length c0_0)∧w12.cell? ⟨Bc,1,none⟩=some (.slice A0_1 l0_1.length c0_1)∧w12.cell? ⟨Bc,2,none⟩=some (.slice A0_2 l0_2.length c0_2):=hS_
           refine norm_ (by simp only [putAll,Act.put,lA,lZ,lS];rfl) ?_
           refine oS 0 3 z57q12 HT_ rfl rfl (by kernel_rfl) (by decide) (fun K hK=>?_)
           refine Kd.R_lit_step Kd.bool _ 4 ?hg (N:=3) ?hd (xs:=([]:List Bool)) (inner:=[]) (ok:=fun _=>True) (okp:=fun _=>True) ?hr ?hp (fun _ hk=>hk) trivial (bJ _ _) (nR _) (by simp) ?_;(case hd=>rfl);(case hg=>rfl);(case hr=>first|(go_simp;done)|(go_simp;rfl));(case hp=>exact (Reps.none _ _))
           intro v162 w13 ho14 hb hg_ hnew_
           clear hg_ hnew_
           (first|rw [← Ny161.out] at ho14|(simp only [Int.reduceToNat] at ho14;rw [← Ny161.out] at ho14))
           have n0_:=Am (rX (rL Bg.out) (rZ ho14) hb)
           have n1_:=Am (rB (rL Bh.out) hb)
           have n2_:=Am (rW (rQ ho14 (rI (rL Bg.out))) (bZ (by repeat (first|(with_reducible first|exact HB.out|apply oA|apply pN|apply o1|refine bS ?_ Be.out|refine bS ?_ Bf.out)|exact HB.out))))
           have n3_:=Am (bX Ba.out hb)
           have n4_:=Am (bX Bb.out hb)
           have n5_:=Am (bP (by repeat (first|(with_reducible first|exact HB.out|apply oA|apply pN|apply o1|refine bS ?_ Be.out|refine bS ?_ Bf.out)|exact HB.out)) hb)
           clear Bg
           clear Bh
           clear Ba
           clear Bb
           clear HB
           have Bg:=n0_
           have Bh:=n1_
           have Bj:=n2_
           have Ba:=n3_
           have Bb:=n4_
           have HB:=n5_
           clear n0_ n1_ n2_ n3_ n4_ n5_
           clear hb ho14
           refine hK.out _ _ ⟨(bC Ba.out 0).trans rfl,(bC Ba.out 1).trans rfl,(bC Ba.out 2).trans rfl⟩ (fun hHeld=>?_)
           clear hK K
           refine norm_ (by show Act.put _ (some 3) _=_;simp only [Act.put,lA,lZ,lS,iw,jw];rfl) ?_
           exact norm_ (by first|(simp only [putAll,Act.put,lA,lZ,lS];done)|(simp only [putAll,Act.put,lA,lZ,lS];rfl)) (hJ0_4_8 (v162,v168,v174) _ ⟨hHeld,(by (with_reducible repeat (first|apply rA|apply rN|apply rD));exact rM Bj.out (fun _ hk=>hk.2)),(by (with_reducible repeat (first|apply rA|apply rN|apply rD));exact rM Bg.out (fun _ hk=>hk.2)),(rL Bh.out),(bL Ba.out),(bL Bb.out),(by repeat (first|(with_reducible first|exact HB.out|apply oA|apply pN|apply o1|refine bS ?_ Be.out|refine bS ?_ Bf.out)|exact HB.out))⟩)
         ·skip
          rintro ⟨v162,v174⟩ w12 ⟨hS_,h0_,h1_,h2_,h3_,h4_⟩
          have n0_:Aside0 (Kd.R Kd.bool 4 w12 w.heap.size (fun _=>True) v162 y161):=⟨h0_⟩
          have n1_:Aside0 (Kd.R (Kd.int .i64) 3 w12 w.heap.size (fun _=>True) v174 y173):=⟨h1_⟩
          have n2_:Aside0 (w12.heap[Bc]?=some (.cells #[.slice A0_0 l0_0.length c0_0,.slice A0_1 l0_1.length c0_1,.slice A0_2 l0_2.length c0_2] 27 (0,0))):=⟨h2_⟩
          have n3_:Aside0 (w12.heap[Bd]?=some (.cells #[.slice none 0 0,.slice none 0 0,.slice none 0 0] 27 (0,0))):=⟨h3_⟩
          have n4_:Aside0 (Below w.heap.size w w12):=⟨h4_⟩
          clear Ba
          clear Bb
          clear HB
          clear h0_ h1_ h2_ h3_ h4_
          have Bj:=n0_
          have Bh:=n1_
          have Ba:=n2_
          have Bb:=n3_
          have HB:=n4_
          clear n0_ n1_ n2_ n3_ n4_
          have hHeld:w12.cell? ⟨Bc,0,none⟩=some (.slice A0_0 l0_0.length c0_0)∧w12.cell? ⟨Bc,1,none⟩=some (.slice A0_1 l0_1.length c0_1)∧w12.cell? ⟨Bc,2,none⟩=some (.slice A0_2 l0_2.length c0_2):=hS_
          refine norm_ (by simp only [putAll,Act.put,lA,lZ,lS];rfl) ?_
          refine two_ (i:=3) (j:=4) (Ni:=some 6) (Nj:=some 7) z57q11 z57q12 rfl rfl rfl rfl (two_of HT_.out (by kernel_rfl)) (by decide) (by decide) (fun K hK=>?_) (fun K hK=>?_)
          ·skip
           refine Kd.R_append_rows_step Kd.bool (w0:=w) w.heap.size (by rfl) (.tmp 3) (.tmp 5) 22 4 (.bool false) 1 rfl Try.underlying22 info4 rfl (by decide) (by omega) v162 y161 l0_0 _ _ _ (fun _=>True) (fun _=>False) rfl rfl ?aO ?aR (fun _ _ h=>h) (fun _ h=>h.elim) ?aF ?aB ?aS ?aL ?_
           (case aR=>repeat (first|exact (cB HR0_0.out HB.out)|(with_reducible refine cA ?_ _)|(with_reducible refine cN ?_ _)|(with_reducible refine cD ?_)))
           (case aB=>exact (by repeat (first|(with_reducible first|exact HB.out|apply oA|apply pN|apply o1|refine bS ?_ Be.out|refine bS ?_ Bf.out)|exact HB.out)))
           (case aF=>exact (fun _ _=>trivial))
           (case aO=>exact (rL Bj.out))
           (case aS=>exact (bZ (by repeat (first|(with_reducible first|exact HB.out|apply oA|apply pN|apply o1|refine bS ?_ Be.out|refine bS ?_ Bf.out)|exact HB.out))))
           (case aL=>have:=LMc2.out;omega)
           intro v165 w13 ho hb hg hat
           rw [← Ny164.out] at ho
           have n0_:=Am (bG (g:=Bc) (o:=.cells #[.slice A0_0 l0_0.length c0_0,.slice A0_1 l0_1.length c0_1,.slice A0_2 l0_2.length c0_2] 27 (0,0)) (bL Ba.out) hg (rE Bj.out Ba.out (by decide)))
           have n1_:=Am (bG (g:=Bd) (o:=.cells #[.slice none 0 0,.slice none 0 0,.slice none 0 0] 27 (0,0)) (bL Bb.out) hg (rE Bj.out Bb.out (by decide)))
           have n2_:=Am (rO (rL Bh.out) (rY (rL Bj.out)) (by decide) hg)
           have n3_:=Am (hb)
           have n4_:=Am (ho)
           clear Ba
           clear Bb
           clear Bh
           clear HB
           clear Bj
           have Ba:=n0_
           have Bb:=n1_
           have Bh:=n2_
           have HB:=n3_
           have Bi:=n4_
           clear n0_ n1_ n2_ n3_ n4_
           clear ho hb hg hat
           refine hK.out _ _ ⟨(bC Ba.out 0).trans rfl,(bC Ba.out 1).trans rfl,(bC Ba.out 2).trans rfl⟩ (fun hHeld=>?_)
           clear hK K
           refine norm_ (by show Act.put _ (some 6) _=_;simp only [Act.put,lA,lZ,lS,iw,jw];rfl) ?_
           exact norm_ (by first|(simp only [putAll,Act.put,lA,lZ,lS];done)|(simp only [putAll,Act.put,lA,lZ,lS];rfl)) (hJ0_3_8 (v162,v165,v174) _ ⟨hHeld,(rL Bi.out),(rL Bh.out),(bL Ba.out),(bL Bb.out),(by repeat (first|(with_reducible first|exact HB.out|apply oA|apply pN|apply o1|refine bS ?_ Be.out|refine bS ?_ Bf.out)|exact HB.out))⟩)
          ·skip
           refine Kd.R_lit_step Kd.bool _ 4 ?hg (N:=7) ?hd (xs:=([]:List Bool)) (inner:=[]) (ok:=fun _=>True) (okp:=fun _=>True) ?hr ?hp (fun _ hk=>hk) trivial (bJ _ _) (nR _) (by simp) ?_;(case hd=>rfl);(case hg=>rfl);(case hr=>first|(go_simp;done)|(go_simp;rfl));(case hp=>exact (Reps.none _ _))
           intro v168 w13 ho14 hb hg_ hnew_
           clear hg_ hnew_
           (first|rw [← Ny167.out] at ho14|(simp only [Int.reduceToNat] at ho14;rw [← Ny167.out] at ho14))
           have n0_:=Am (rX (rL Bj.out) (rZ ho14) hb)
           have n1_:=Am (rB (rL Bh.out) hb)
           have n2_:=Am (rW (rQ ho14 (rI (rL Bj.out))) (bZ (by repeat (first|(with_reducible first|exact HB.out|apply oA|apply pN|apply o1|refine bS ?_ Be.out|refine bS ?_ Bf.out)|exact HB.out))))
           have n3_:=Am (bX Ba.out hb)
           have n4_:=Am (bX Bb.out hb)
           have n5_:=Am (bP (by repeat (first|(with_reducible first|exact HB.out|apply oA|apply pN|apply o1|refine bS ?_ Be.out|refine bS ?_ Bf.out)|exact HB.out)) hb)
           clear Bj
           clear Bh
           clear Ba
           clear Bb
           clear HB
           have Bj:=n0_
           have Bh:=n1_
           have Bg:=n2_
           have Ba:=n3_
           have Bb:=n4_
           have HB:=n5_
           clear n0_ n1_ n2_ n3_ n4_ n5_
           clear hb ho14
           refine hK.out _ _ ⟨(bC Ba.out 0).trans rfl,(bC Ba.out 1).trans rfl,(bC Ba.out 2).trans rfl⟩ (fun hHeld=>?_)
           clear hK K
           refine norm_ (by show Act.put _ (some 7) _=_;simp only [Act.put,lA,lZ,lS,iw,jw];rfl) ?_
           exact norm_ (by first|(simp only [putAll,Act.put,lA,lZ,lS];done)|(simp only [putAll,Act.put,lA,lZ,lS];rfl)) (hJ0_4_8 (v162,v168,v174) _ ⟨hHeld,(by (with_reducible repeat (first|apply rA|apply rN|apply rD));exact rM Bj.out (fun _ hk=>hk.2)),(by (with_reducible repeat (first|apply rA|apply rN|apply rD));exact rM Bg.out (fun _ hk=>hk.2)),(rL Bh.out),(bL Ba.out),(bL Bb.out),(by repeat (first|(with_reducible first|exact HB.out|apply oA|apply pN|apply o1|refine bS ?_ Be.out|refine bS ?_ Bf.out)|exact HB.out))⟩)
        ·skip
         rintro ⟨v162,v168⟩ w12 ⟨hS_,h0_,h1_,h2_,h3_,h4_⟩
         have n0_:Aside0 (Kd.R Kd.bool 4 w12 w.heap.size (fun k_=>some k_≠(v168:Value).ownBlock) v162 y161):=⟨h0_⟩
         have n1_:Aside0 (Kd.R Kd.bool 4 w12 w.heap.size (fun k_=>some k_≠(v162:Value).ownBlock) v168 y167):=⟨h1_⟩
         have n2_:Aside0 (w12.heap[Bc]?=some (.cells #[.slice A0_0 l0_0.length c0_0,.slice A0_1 l0_1.length c0_1,.slice A0_2 l0_2.length c0_2] 27 (0,0))):=⟨h2_⟩
         have n3_:Aside0 (w12.heap[Bd]?=some (.cells #[.slice none 0 0,.slice none 0 0,.slice none 0 0] 27 (0,0))):=⟨h3_⟩
         have n4_:Aside0 (Below w.heap.size w w12):=⟨h4_⟩
         clear Ba
         clear Bb
         clear HB
         clear h0_ h1_ h2_ h3_ h4_
         have Bj:=n0_
         have Bg:=n1_
         have Ba:=n2_
         have Bb:=n3_
         have HB:=n4_
         clear n0_ n1_ n2_ n3_ n4_
         have hHeld:w12.cell? ⟨Bc,0,none⟩=some (.slice A0_0 l0_0.length c0_0)∧w12.cell? ⟨Bc,1,none⟩=some (.slice A0_1 l0_1.length c0_1)∧w12.cell? ⟨Bc,2,none⟩=some (.slice A0_2 l0_2.length c0_2):=hS_
         refine norm_ (by simp only [putAll,Act.put,lA,lZ,lS];rfl) ?_
         refine two_ (i:=3) (j:=8) (Ni:=some 6) (Nj:=some 11) z57q10 z57q12 rfl rfl rfl rfl (two_of HT_.out (by kernel_rfl)) (by decide) (by decide) (fun K hK=>?_) (fun K hK=>?_)
         ·skip
          refine Kd.R_append_rows_step Kd.bool (w0:=w) w.heap.size (by rfl) (.tmp 3) (.tmp 5) 22 4 (.bool false) 1 rfl Try.underlying22 info4 rfl (by decide) (by omega) v162 y161 l0_0 _ _ _ (fun k_=>some k_≠(v168:Value).ownBlock) (fun _=>False) rfl rfl ?aO ?aR (fun _ _ h=>h) (fun _ h=>h.elim) ?aF ?aB ?aS ?aL ?_
          (case aR=>repeat (first|exact (cB HR0_0.out HB.out)|(with_reducible refine cA ?_ _)|(with_reducible refine cN ?_ _)|(with_reducible refine cD ?_)))
          (case aB=>exact (by repeat (first|(with_reducible first|exact HB.out|apply oA|apply pN|apply o1|refine bS ?_ Be.out|refine bS ?_ Bf.out)|exact HB.out)))
          (case aF=>exact (fun k_ hk=>Kd.fresh' (rI (rL Bg.out)) k_ hk))
          (case aO=>exact (rL Bj.out))
          (case aS=>exact (bZ (by repeat (first|(with_reducible first|exact HB.out|apply oA|apply pN|apply o1|refine bS ?_ Be.out|refine bS ?_ Bf.out)|exact HB.out))))
          (case aL=>have:=LMc2.out;omega)
          intro v165 w13 ho hb hg hat
          rw [← Ny164.out] at ho
          have n0_:=Am (bG (g:=Bc) (o:=.cells #[.slice A0_0 l0_0.length c0_0,.slice A0_1 l0_1.length c0_1,.slice A0_2 l0_2.length c0_2] 27 (0,0)) (bL Ba.out) hg (rE Bj.out Ba.out (by decide)))
          have n1_:=Am (bG (g:=Bd) (o:=.cells #[.slice none 0 0,.slice none 0 0,.slice none 0 0] 27 (0,0)) (bL Bb.out) hg (rE Bj.out Bb.out (by decide)))
          have n2_:=Am (Kd.R_after (ok:=(fun _=>True)) (by (with_reducible repeat (first|apply rA|apply rN|apply rD));exact rM Bg.out (fun _ hk=>⟨trivial,hk⟩)) hg hat)
          have n3_:=Am (hb)
          have n4_:=Am (ho)
          clear Ba
          clear Bb
          clear Bg
          clear HB
          clear Bj
          have Ba:=n0_
          have Bb:=n1_
          have Bg:=n2_
          have HB:=n3_
          have Bi:=n4_
          clear n0_ n1_ n2_ n3_ n4_
          clear ho hb hg hat
          refine hK.out _ _ ⟨(bC Ba.out 0).trans rfl,(bC Ba.out 1).trans rfl,(bC Ba.out 2).trans rfl⟩ (fun hHeld=>?_)
          clear hK K
          refine norm_ (by show Act.put _ (some 6) _=_;simp only [Act.put,lA,lZ,lS,iw,jw];rfl) ?_
          exact norm_ (by first|(simp only [putAll,Act.put,lA,lZ,lS];done)|(simp only [putAll,Act.put,lA,lZ,lS];rfl)) (hJ0_3_4 (v162,v165,v168) _ ⟨hHeld,(rL Bi.out),(by (with_reducible repeat (first|apply rA|apply rN|apply rD));exact rM Bg.out (fun _ hk=>hk.2)),(bL Ba.out),(bL Bb.out),(by repeat (first|(with_reducible first|exact HB.out|apply oA|apply pN|apply o1|refine bS ?_ Be.out|refine bS ?_ Bf.out)|exact HB.out))⟩)
         ·skip
          refine Kd.R_lit_step (Kd.int .i64) _ 3 ?hg (N:=11) ?hd (xs:=([]:List Int)) (inner:=[]) (ok:=fun _=>True) (okp:=fun _=>True) ?hr ?hp (fun _ hk=>hk) trivial (bJ _ _) (nR _) (by simp) ?_;(case hd=>rfl);(case hg=>rfl);(case hr=>first|(go_simp;done)|(go_simp;rfl));(case hp=>exact (Reps.none _ _))
          intro v174 w13 ho14 hb hg_ hnew_
          clear hg_ hnew_
          (first|rw [← Ny173.out] at ho14|(simp only [Int.reduceToNat] at ho14;rw [← Ny173.out] at ho14))
          have n0_:=Am (rB (rL Bj.out) hb)
          have n1_:=Am (rB (rL Bg.out) hb)
          have n2_:=Am (rW ho14 (bZ (by repeat (first|(with_reducible first|exact HB.out|apply oA|apply pN|apply o1|refine bS ?_ Be.out|refine bS ?_ Bf.out)|exact HB.out))))
          have n3_:=Am (bX Ba.out hb)
          have n4_:=Am (bX Bb.out hb)
          have n5_:=Am (bP (by repeat (first|(with_reducible first|exact HB.out|apply oA|apply pN|apply o1|refine bS ?_ Be.out|refine bS ?_ Bf.out)|exact HB.out)) hb)
          clear Bj
          clear Bg
          clear Ba
          clear Bb
          clear HB
          have Bj:=n0_
          have Bg:=n1_
          have Bh:=n2_
          have Ba:=n3_
          have Bb:=n4_
          have HB:=n5_
          clear n0_ n1_ n2_ n3_ n4_ n5_
          clear hb ho14
          refine hK.out _ _ ⟨(bC Ba.out 0).trans rfl,(bC Ba.out 1).trans rfl,(bC Ba.out 2).trans rfl⟩ (fun hHeld=>?_)
          clear hK K
          refine norm_ (by show Act.put _ (some 11) _=_;simp only [Act.put,lA,lZ,lS,iw,jw];rfl) ?_
          exact norm_ (by first|(simp only [putAll,Act.put,lA,lZ,lS];done)|(simp only [putAll,Act.put,lA,lZ,lS];rfl)) (hJ0_4_8 (v162,v168,v174) _ ⟨hHeld,(rL Bj.out),(rL Bg.out),(rL Bh.out),(bL Ba.out),(bL Bb.out),(by repeat (first|(with_reducible first|exact HB.out|apply oA|apply pN|apply o1|refine bS ?_ Be.out|refine bS ?_ Bf.out)|exact HB.out))⟩)
       ·skip
        rintro ⟨v162,v165⟩ w11 ⟨hS_,h0_,h1_,h2_,h3_⟩
        have n0_:Aside0 (Kd.R Kd.bool 4 w11 w.heap.size (fun _=>True) v165 y164):=⟨h0_⟩
        have n1_:Aside0 (w11.heap[Bc]?=some (.cells #[.slice A0_0 l0_0.length c0_0,.slice A0_1 l0_1.length c0_1,.slice A0_2 l0_2.length c0_2] 27 (0,0))):=⟨h1_⟩
        have n2_:Aside0 (w11.heap[Bd]?=some (.cells #[.slice none 0 0,.slice none 0 0,.slice none 0 0] 27 (0,0))):=⟨h2_⟩
        have n3_:Aside0 (Below w.heap.size w w11):=⟨h3_⟩
        clear Ba
        clear Bb
        clear HB
        clear h0_ h1_ h2_ h3_
        have Bi:=n0_
        have Ba:=n1_
        have Bb:=n2_
        have HB:=n3_
        clear n0_ n1_ n2_ n3_
        have hHeld:w11.cell? ⟨Bc,0,none⟩=some (.slice A0_0 l0_0.length c0_0)∧w11.cell? ⟨Bc,1,none⟩=some (.slice A0_1 l0_1.length c0_1)∧w11.cell? ⟨Bc,2,none⟩=some (.slice A0_2 l0_2.length c0_2):=hS_
        refine norm_ (by simp only [putAll,Act.put,lA,lZ,lS];rfl) ?_
        refine two_ (i:=4) (j:=8) (Ni:=some 7) (Nj:=some 11) z57q10 z57q11 rfl rfl rfl rfl (two_of HT_.out (by kernel_rfl)) (by decide) (by decide) (fun K hK=>?_) (fun K hK=>?_)
        ·skip
         refine Kd.R_lit_step Kd.bool _ 4 ?hg (N:=7) ?hd (xs:=([]:List Bool)) (inner:=[]) (ok:=fun _=>True) (okp:=fun _=>True) ?hr ?hp (fun _ hk=>hk) trivial (bJ _ _) (nR _) (by simp) ?_;(case hd=>rfl);(case hg=>rfl);(case hr=>first|(go_simp;done)|(go_simp;rfl));(case hp=>exact (Reps.none _ _))
         intro v168 w12 ho13 hb hg_ hnew_
         clear hg_ hnew_
         (first|rw [← Ny167.out] at ho13|(simp only [Int.reduceToNat] at ho13;rw [← Ny167.out] at ho13))
         have n0_:=Am (rX (rL Bi.out) (rZ ho13) hb)
         have n1_:=Am (rW (rQ ho13 (rI (rL Bi.out))) (bZ (by repeat (first|(with_reducible first|exact HB.out|apply oA|apply pN|apply o1|refine bS ?_ Be.out|refine bS ?_ Bf.out)|exact HB.out))))
         have n2_:=Am (bX Ba.out hb)
         have n3_:=Am (bX Bb.out hb)
         have n4_:=Am (bP (by repeat (first|(with_reducible first|exact HB.out|apply oA|apply pN|apply o1|refine bS ?_ Be.out|refine bS ?_ Bf.out)|exact HB.out)) hb)
         clear Bi
         clear Ba
         clear Bb
         clear HB
         have Bi:=n0_
         have Bg:=n1_
         have Ba:=n2_
         have Bb:=n3_
         have HB:=n4_
         clear n0_ n1_ n2_ n3_ n4_
         clear hb ho13
         refine hK.out _ _ ⟨(bC Ba.out 0).trans rfl,(bC Ba.out 1).trans rfl,(bC Ba.out 2).trans rfl⟩ (fun hHeld=>?_)
         clear hK K
         refine norm_ (by show Act.put _ (some 7) _=_;simp only [Act.put,lA,lZ,lS,iw,jw];rfl) ?_
         exact norm_ (by first|(simp only [putAll,Act.put,lA,lZ,lS];done)|(simp only [putAll,Act.put,lA,lZ,lS];rfl)) (hJ0_3_4 (v162,v165,v168) _ ⟨hHeld,(by (with_reducible repeat (first|apply rA|apply rN|apply rD));exact rM Bi.out (fun _ hk=>hk.2)),(by (with_reducible repeat (first|apply rA|apply rN|apply rD));exact rM Bg.out (fun _ hk=>hk.2)),(bL Ba.out),(bL Bb.out),(by repeat (first|(with_reducible first|exact HB.out|apply oA|apply pN|apply o1|refine bS ?_ Be.out|refine bS ?_ Bf.out)|exact HB.out))⟩)
        ·skip
         refine Kd.R_lit_step (Kd.int .i64) _ 3 ?hg (N:=11) ?hd (xs:=([]:List Int)) (inner:=[]) (ok:=fun _=>True) (okp:=fun _=>True) ?hr ?hp (fun _ hk=>hk) trivial (bJ _ _) (nR _) (by simp) ?_;(case hd=>rfl);(case hg=>rfl);(case hr=>first|(go_simp;done)|(go_simp;rfl));(case hp=>exact (Reps.none _ _))
         intro v174 w12 ho13 hb hg_ hnew_
         clear hg_ hnew_
         (first|rw [← Ny173.out] at ho13|(simp only [Int.reduceToNat] at ho13;rw [← Ny173.out] at ho13))
         have n0_:=Am (rB (rL Bi.out) hb)
         have n1_:=Am (rW ho13 (bZ (by repeat (first|(with_reducible first|exact HB.out|apply oA|apply pN|apply o1|refine bS ?_ Be.out|refine bS ?_ Bf.out)|exact HB.out))))
         have n2_:=Am (bX Ba.out hb)
         have n3_:=Am (bX Bb.out hb)
         have n4_:=Am (bP (by repeat (first|(with_reducible first|exact HB.out|apply oA|apply pN|apply o1|refine bS ?_ Be.out|refine bS ?_ Bf.out)|exact HB.out)) hb)
         clear Bi
         clear Ba
         clear Bb
         clear HB
         have Bi:=n0_
         have Bh:=n1_
         have Ba:=n2_
         have Bb:=n3_
         have HB:=n4_
         clear n0_ n1_ n2_ n3_ n4_
         clear hb ho13
         refine hK.out _ _ ⟨(bC Ba.out 0).trans rfl,(bC Ba.out 1).trans rfl,(bC Ba.out 2).trans rfl⟩ (fun hHeld=>?_)
         clear hK K
         refine norm_ (by show Act.put _ (some 11) _=_;simp only [Act.put,lA,lZ,lS,iw,jw];rfl) ?_
         exact norm_ (by first|(simp only [putAll,Act.put,lA,lZ,lS];done)|(simp only [putAll,Act.put,lA,lZ,lS];rfl)) (hJ0_3_8 (v162,v165,v174) _ ⟨hHeld,(rL Bi.out),(rL Bh.out),(bL Ba.out),(bL Bb.out),(by repeat (first|(with_reducible first|exact HB.out|apply oA|apply pN|apply o1|refine bS ?_ Be.out|refine bS ?_ Bf.out)|exact HB.out))⟩)
      ·skip
       rintro ⟨v162,v168,v174⟩ w14 ⟨hS_,h0_,h1_,h2_,h3_,h4_,h5_⟩
       have n0_:Aside0 (Kd.R Kd.bool 4 w14 w.heap.size (fun k_=>some k_≠(v168:Value).ownBlock) v162 y161):=⟨h0_⟩
       have n1_:Aside0 (Kd.R Kd.bool 4 w14 w.heap.size (fun k_=>some k_≠(v162:Value).ownBlock) v168 y167):=⟨h1_⟩
       have n2_:Aside0 (Kd.R (Kd.int .i64) 3 w14 w.heap.size (fun _=>True) v174 y173):=⟨h2_⟩
       have n3_:Aside0 (w14.heap[Bc]?=some (.cells #[.slice A0_0 l0_0.length c0_0,.slice A0_1 l0_1.length c0_1,.slice A0_2 l0_2.length c0_2] 27 (0,0))):=⟨h3_⟩
       have n4_:Aside0 (w14.heap[Bd]?=some (.cells #[.slice none 0 0,.slice none 0 0,.slice none 0 0] 27 (0,0))):=⟨h4_⟩
       have n5_:Aside0 (Below w.heap.size w w14):=⟨h5_⟩
       clear Ba
       clear Bb
       clear HB
       clear h0_ h1_ h2_ h3_ h4_ h5_
       have Bj:=n0_
       have Bg:=n1_
       have Bh:=n2_
       have Ba:=n3_
       have Bb:=n4_
       have HB:=n5_
       clear n0_ n1_ n2_ n3_ n4_ n5_
       have hHeld:w14.cell? ⟨Bc,0,none⟩=some (.slice A0_0 l0_0.length c0_0)∧w14.cell? ⟨Bc,1,none⟩=some (.slice A0_1 l0_1.length c0_1)∧w14.cell? ⟨Bc,2,none⟩=some (.slice A0_2 l0_2.length c0_2):=hS_
       refine norm_ (by simp only [putAll,Act.put,lA,lZ,lS];rfl) ?_
       refine oS 3 6 z57q9 HT_ rfl rfl (by kernel_rfl) (by decide) (fun K hK=>?_)
       refine Kd.R_append_rows_step Kd.bool (w0:=w) w.heap.size (by rfl) (.tmp 3) (.tmp 5) 22 4 (.bool false) 1 rfl Try.underlying22 info4 rfl (by decide) (by omega) v162 y161 l0_0 _ _ _ (fun k_=>some k_≠(v168:Value).ownBlock) (fun _=>False) rfl rfl ?aO ?aR (fun _ _ h=>h) (fun _ h=>h.elim) ?aF ?aB ?aS ?aL ?_
       (case aR=>repeat (first|exact (cB HR0_0.out HB.out)|(with_reducible refine cA ?_ _)|(with_reducible refine cN ?_ _)|(with_reducible refine cD ?_)))
       (case aB=>exact (by repeat (first|(with_reducible first|exact HB.out|apply oA|apply pN|apply o1|refine bS ?_ Be.out|refine bS ?_ Bf.out)|exact HB.out)))
       (case aF=>exact (fun k_ hk=>Kd.fresh' (rI (rL Bg.out)) k_ hk))
       (case aO=>exact (rL Bj.out))
       (case aS=>exact (bZ (by repeat (first|(with_reducible first|exact HB.out|apply oA|apply pN|apply o1|refine bS ?_ Be.out|refine bS ?_ Bf.out)|exact HB.out))))
       (case aL=>have:=LMc2.out;omega)
       intro v165 w15 ho hb hg hat
       rw [← Ny164.out] at ho
       have n0_:=Am (bG (g:=Bc) (o:=.cells #[.slice A0_0 l0_0.length c0_0,.slice A0_1 l0_1.length c0_1,.slice A0_2 l0_2.length c0_2] 27 (0,0)) (bL Ba.out) hg (rE Bj.out Ba.out (by decide)))
       have n1_:=Am (bG (g:=Bd) (o:=.cells #[.slice none 0 0,.slice none 0 0,.slice none 0 0] 27 (0,0)) (bL Bb.out) hg (rE Bj.out Bb.out (by decide)))
       have n2_:=Am (Kd.R_after (ok:=(fun _=>True)) (by (with_reducible repeat (first|apply rA|apply rN|apply rD));exact rM Bg.out (fun _ hk=>⟨trivial,hk⟩)) hg hat)
       have n3_:=Am (rO (rL Bh.out) (rY (rL Bj.out)) (by decide) hg)
       have n4_:=Am (hb)
       have n5_:=Am (ho)
       clear Ba
       clear Bb
       clear Bg
       clear Bh
       clear HB
       clear Bj
       have Ba:=n0_
       have Bb:=n1_
       have Bg:=n2_
       have Bh:=n3_
       have HB:=n4_
       have Bi:=n5_
       clear n0_ n1_ n2_ n3_ n4_ n5_
       clear ho hb hg hat
       refine hK.out _ _ ⟨(bC Ba.out 0).trans rfl,(bC Ba.out 1).trans rfl,(bC Ba.out 2).trans rfl⟩ (fun hHeld=>?_)
       clear hK K
       refine norm_ (by show Act.put _ (some 6) _=_;simp only [Act.put,lA,lZ,lS,iw,jw];rfl) ?_
       exact norm_ (by first|(simp only [putAll,Act.put,lA,lZ,lS];done)|(simp only [putAll,Act.put,lA,lZ,lS];rfl)) (hJ0_3_4_8 (v162,v165,v168,v174) _ ⟨hHeld,(rL Bi.out),(by (with_reducible repeat (first|apply rA|apply rN|apply rD));exact rM Bg.out (fun _ hk=>hk.2)),(rL Bh.out),(bL Ba.out),(bL Bb.out),(by repeat (first|(with_reducible first|exact HB.out|apply oA|apply pN|apply o1|refine bS ?_ Be.out|refine bS ?_ Bf.out)|exact HB.out))⟩)
     ·skip
      rintro ⟨v162,v165,v174⟩ w13 ⟨hS_,h0_,h1_,h2_,h3_,h4_⟩
      have n0_:Aside0 (Kd.R Kd.bool 4 w13 w.heap.size (fun _=>True) v165 y164):=⟨h0_⟩
      have n1_:Aside0 (Kd.R (Kd.int .i64) 3 w13 w.heap.size (fun _=>True) v174 y173):=⟨h1_⟩
      have n2_:Aside0 (w13.heap[Bc]?=some (.cells #[.slice A0_0 l0_0.length c0_0,.slice A0_1 l0_1.length c0_1,.slice A0_2 l0_2.length c0_2] 27 (0,0))):=⟨h2_⟩
      have n3_:Aside0 (w13.heap[Bd]?=some (.cells #[.slice none 0 0,.slice none 0 0,.slice none 0 0] 27 (0,0))):=⟨h3_⟩
      have n4_:Aside0 (Below w.heap.size w w13):=⟨h4_⟩
      clear Ba
      clear Bb
      clear HB
      clear h0_ h1_ h2_ h3_ h4_
      have Bi:=n0_
      have Bh:=n1_
      have Ba:=n2_
      have Bb:=n3_
      have HB:=n4_
      clear n0_ n1_ n2_ n3_ n4_
      have hHeld:w13.cell? ⟨Bc,0,none⟩=some (.slice A0_0 l0_0.length c0_0)∧w13.cell? ⟨Bc,1,none⟩=some (.slice A0_1 l0_1.length c0_1)∧w13.cell? ⟨Bc,2,none⟩=some (.slice A0_2 l0_2.length c0_2):=hS_
      refine norm_ (by simp only [putAll,Act.put,lA,lZ,lS];rfl) ?_
      refine oS 4 7 z57q9 HT_ rfl rfl (by kernel_rfl) (by decide) (fun K hK=>?_)
      refine Kd.R_lit_step Kd.bool _ 4 ?hg (N:=7) ?hd (xs:=([]:List Bool)) (inner:=[]) (ok:=fun _=>True) (okp:=fun _=>True) ?hr ?hp (fun _ hk=>hk) trivial (bJ _ _) (nR _) (by simp) ?_;(case hd=>rfl);(case hg=>rfl);(case hr=>first|(go_simp;done)|(go_simp;rfl));(case hp=>exact (Reps.none _ _))
      intro v168 w14 ho15 hb hg_ hnew_
      clear hg_ hnew_
      (first|rw [← Ny167.out] at ho15|(simp only [Int.reduceToNat] at ho15;rw [← Ny167.out] at ho15))
      have n0_:=Am (rX (rL Bi.out) (rZ ho15) hb)
      have n1_:=Am (rB (rL Bh.out) hb)
      have n2_:=Am (rW (rQ ho15 (rI (rL Bi.out))) (bZ (by repeat (first|(with_reducible first|exact HB.out|apply oA|apply pN|apply o1|refine bS ?_ Be.out|refine bS ?_ Bf.out)|exact HB.out))))
      have n3_:=Am (bX Ba.out hb)
      have n4_:=Am (bX Bb.out hb)
      have n5_:=Am (bP (by repeat (first|(with_reducible first|exact HB.out|apply oA|apply pN|apply o1|refine bS ?_ Be.out|refine bS ?_ Bf.out)|exact HB.out)) hb)
      clear Bi
      clear Bh
      clear Ba
      clear Bb
      clear HB
      have Bi:=n0_
      have Bh:=n1_
      have Bg:=n2_
      have Ba:=n3_
      have Bb:=n4_
      have HB:=n5_
      clear n0_ n1_ n2_ n3_ n4_ n5_
      clear hb ho15
      refine hK.out _ _ ⟨(bC Ba.out 0).trans rfl,(bC Ba.out 1).trans rfl,(bC Ba.out 2).trans rfl⟩ (fun hHeld=>?_)
      clear hK K
      refine norm_ (by show Act.put _ (some 7) _=_;simp only [Act.put,lA,lZ,lS,iw,jw];rfl) ?_
      exact norm_ (by first|(simp only [putAll,Act.put,lA,lZ,lS];done)|(simp only [putAll,Act.put,lA,lZ,lS];rfl)) (hJ0_3_4_8 (v162,v165,v168,v174) _ ⟨hHeld,(by (with_reducible repeat (first|apply rA|apply rN|apply rD));exact rM Bi.out (fun _ hk=>hk.2)),(by (with_reducible repeat (first|apply rA|apply rN|apply rD));exact rM Bg.out (fun _ hk=>hk.2)),(rL Bh.out),(bL Ba.out),(bL Bb.out),(by repeat (first|(with_reducible first|exact HB.out|apply oA|apply pN|apply o1|refine bS ?_ Be.out|refine bS ?_ Bf.out)|exact HB.out))⟩)
    ·skip
     rintro ⟨v162,v165,v168⟩ w13 ⟨hS_,h0_,h1_,h2_,h3_,h4_⟩
     have n0_:Aside0 (Kd.R Kd.bool 4 w13 w.heap.size (fun k_=>some k_≠(v168:Value).ownBlock) v165 y164):=⟨h0_⟩
     have n1_:Aside0 (Kd.R Kd.bool 4 w13 w.heap.size (fun k_=>some k_≠(v165:Value).ownBlock) v168 y167):=⟨h1_⟩
     have n2_:Aside0 (w13.heap[Bc]?=some (.cells #[.slice A0_0 l0_0.length c0_0,.slice A0_1 l0_1.length c0_1,.slice A0_2 l0_2.length c0_2] 27 (0,0))):=⟨h2_⟩
     have n3_:Aside0 (w13.heap[Bd]?=some (.cells #[.slice none 0 0,.slice none 0 0,.slice none 0 0] 27 (0,0))):=⟨h3_⟩
     have n4_:Aside0 (Below w.heap.size w w13):=⟨h4_⟩
     clear Ba
     clear Bb
     clear HB
     clear h0_ h1_ h2_ h3_ h4_
     have Bi:=n0_
     have Bg:=n1_
     have Ba:=n2_
     have Bb:=n3_
     have HB:=n4_
     clear n0_ n1_ n2_ n3_ n4_
     have hHeld:w13.cell? ⟨Bc,0,none⟩=some (.slice A0_0 l0_0.length c0_0)∧w13.cell? ⟨Bc,1,none⟩=some (.slice A0_1 l0_1.length c0_1)∧w13.cell? ⟨Bc,2,none⟩=some (.slice A0_2 l0_2.length c0_2):=hS_
     refine norm_ (by simp only [putAll,Act.put,lA,lZ,lS];rfl) ?_
     refine two_ (i:=7) (j:=8) (Ni:=some 10) (Nj:=some 11) z57q8 z57q9 rfl rfl rfl rfl (two_of HT_.out (by kernel_rfl)) (by decide) (by decide) (fun K hK=>?_) (fun K hK=>?_)
     ·skip
      refine Kd.R_append_rows_step Kd.bool (w0:=w) w.heap.size (by rfl) (.tmp 7) (.tmp 9) 22 4 (.bool false) 1 rfl Try.underlying22 info4 rfl (by decide) (by omega) v168 y167 l0_1 _ _ _ (fun k_=>some k_≠(v165:Value).ownBlock) (fun _=>False) rfl rfl ?aO ?aR (fun _ _ h=>h) (fun _ h=>h.elim) ?aF ?aB ?aS ?aL ?_
      (case aR=>repeat (first|exact (cB HR0_1.out HB.out)|(with_reducible refine cA ?_ _)|(with_reducible refine cN ?_ _)|(with_reducible refine cD ?_)))
      (case aB=>exact (by repeat (first|(with_reducible first|exact HB.out|apply oA|apply pN|apply o1|refine bS ?_ Be.out|refine bS ?_ Bf.out)|exact HB.out)))
      (case aF=>exact (fun k_ hk=>Kd.fresh' (rI (rL Bi.out)) k_ hk))
      (case aO=>exact (rL Bg.out))
      (case aS=>exact (bZ (by repeat (first|(with_reducible first|exact HB.out|apply oA|apply pN|apply o1|refine bS ?_ Be.out|refine bS ?_ Bf.out)|exact HB.out))))
      (case aL=>have:=LMc3.out;omega)
      intro v171 w14 ho hb hg hat
      rw [← Ny170.out] at ho
      have n0_:=Am (bG (g:=Bc) (o:=.cells #[.slice A0_0 l0_0.length c0_0,.slice A0_1 l0_1.length c0_1,.slice A0_2 l0_2.length c0_2] 27 (0,0)) (bL Ba.out) hg (rE Bg.out Ba.out (by decide)))
      have n1_:=Am (bG (g:=Bd) (o:=.cells #[.slice none 0 0,.slice none 0 0,.slice none 0 0] 27 (0,0)) (bL Bb.out) hg (rE Bg.out Bb.out (by decide)))
      have n2_:=Am (Kd.R_after (ok:=(fun _=>True)) (by (with_reducible repeat (first|apply rA|apply rN|apply rD));exact rM Bi.out (fun _ hk=>⟨trivial,hk⟩)) hg hat)
      have n3_:=Am (hb)
      have n4_:=Am (ho)
      clear Ba
      clear Bb
      clear Bi
      clear HB
      clear Bg
      have Ba:=n0_
      have Bb:=n1_
      have Bi:=n2_
      have HB:=n3_
      have Bl:=n4_
      clear n0_ n1_ n2_ n3_ n4_
      clear ho hb hg hat
      refine hK.out _ _ ⟨(bC Ba.out 0).trans rfl,(bC Ba.out 1).trans rfl,(bC Ba.out 2).trans rfl⟩ (fun hHeld=>?_)
      clear hK K
      refine norm_ (by show Act.put _ (some 10) _=_;simp only [Act.put,lA,lZ,lS,iw,jw];rfl) ?_
      exact norm_ (by first|(simp only [putAll,Act.put,lA,lZ,lS];done)|(simp only [putAll,Act.put,lA,lZ,lS];rfl)) (hJ0_3_4_7 (v162,v165,v168,v171) _ ⟨hHeld,(by (with_reducible repeat (first|apply rA|apply rN|apply rD));exact rM Bi.out (fun _ hk=>hk.2)),(rL Bl.out),(bL Ba.out),(bL Bb.out),(by repeat (first|(with_reducible first|exact HB.out|apply oA|apply pN|apply o1|refine bS ?_ Be.out|refine bS ?_ Bf.out)|exact HB.out))⟩)
     ·skip
      refine Kd.R_lit_step (Kd.int .i64) _ 3 ?hg (N:=11) ?hd (xs:=([]:List Int)) (inner:=[]) (ok:=fun _=>True) (okp:=fun _=>True) ?hr ?hp (fun _ hk=>hk) trivial (bJ _ _) (nR _) (by simp) ?_;(case hd=>rfl);(case hg=>rfl);(case hr=>first|(go_simp;done)|(go_simp;rfl));(case hp=>exact (Reps.none _ _))
      intro v174 w14 ho15 hb hg_ hnew_
      clear hg_ hnew_
      (first|rw [← Ny173.out] at ho15|(simp only [Int.reduceToNat] at ho15;rw [← Ny173.out] at ho15))
      have n0_:=Am (rB (rL Bi.out) hb)
      have n1_:=Am (rB (rL Bg.out) hb)
      have n2_:=Am (rW ho15 (bZ (by repeat (first|(with_reducible first|exact HB.out|apply oA|apply pN|apply o1|refine bS ?_ Be.out|refine bS ?_ Bf.out)|exact HB.out))))
      have n3_:=Am (bX Ba.out hb)
      have n4_:=Am (bX Bb.out hb)
      have n5_:=Am (bP (by repeat (first|(with_reducible first|exact HB.out|apply oA|apply pN|apply o1|refine bS ?_ Be.out|refine bS ?_ Bf.out)|exact HB.out)) hb)
      clear Bi
      clear Bg
      clear Ba
      clear Bb
      clear HB
      have Bi:=n0_
      have Bg:=n1_
      have Bh:=n2_
      have Ba:=n3_
      have Bb:=n4_
      have HB:=n5_
      clear n0_ n1_ n2_ n3_ n4_ n5_
      clear hb ho15
      refine hK.out _ _ ⟨(bC Ba.out 0).trans rfl,(bC Ba.out 1).trans rfl,(bC Ba.out 2).trans rfl⟩ (fun hHeld=>?_)
      clear hK K
      refine norm_ (by show Act.put _ (some 11) _=_;simp only [Act.put,lA,lZ,lS,iw,jw];rfl) ?_
      exact norm_ (by first|(simp only [putAll,Act.put,lA,lZ,lS];done)|(simp only [putAll,Act.put,lA,lZ,lS];rfl)) (hJ0_3_4_8 (v162,v165,v168,v174) _ ⟨hHeld,(rL Bi.out),(rL Bg.out),(rL Bh.out),(bL Ba.out),(bL Bb.out),(by repeat (first|(with_reducible first|exact HB.out|apply oA|apply pN|apply o1|refine bS ?_ Be.out|refine bS ?_ Bf.out)|exact HB.out))⟩)
   ·skip
    rintro ⟨v162,v165,v168,v174⟩ w15 ⟨hS_,h0_,h1_,h2_,h3_,h4_,h5_⟩
    have n0_:Aside0 (Kd.R Kd.bool 4 w15 w.heap.size (fun k_=>some k_≠(v168:Value).ownBlock) v165 y164):=⟨h0_⟩
    have n1_:Aside0 (Kd.R Kd.bool 4 w15 w.heap.size (fun k_=>some k_≠(v165:Value).ownBlock) v168 y167):=⟨h1_⟩
    have n2_:Aside0 (Kd.R (Kd.int .i64) 3 w15 w.heap.size (fun _=>True) v174 y173):=⟨h2_⟩
    have n3_:Aside0 (w15.heap[Bc]?=some (.cells #[.slice A0_0 l0_0.length c0_0,.slice A0_1 l0_1.length c0_1,.slice A0_2 l0_2.length c0_2] 27 (0,0))):=⟨h3_⟩
    have n4_:Aside0 (w15.heap[Bd]?=some (.cells #[.slice none 0 0,.slice none 0 0,.slice none 0 0] 27 (0,0))):=⟨h4_⟩
    have n5_:Aside0 (Below w.heap.size w w15):=⟨h5_⟩
    clear Ba
    clear Bb
    clear HB
    clear h0_ h1_ h2_ h3_ h4_ h5_
    have Bi:=n0_
    have Bg:=n1_
    have Bh:=n2_
    have Ba:=n3_
    have Bb:=n4_
    have HB:=n5_
    clear n0_ n1_ n2_ n3_ n4_ n5_
    have hHeld:w15.cell? ⟨Bc,0,none⟩=some (.slice A0_0 l0_0.length c0_0)∧w15.cell? ⟨Bc,1,none⟩=some (.slice A0_1 l0_1.length c0_1)∧w15.cell? ⟨Bc,2,none⟩=some (.slice A0_2 l0_2.length c0_2):=hS_
    refine norm_ (by simp only [putAll,Act.put,lA,lZ,lS];rfl) ?_
    refine oS 7 10 z57q7 HT_ rfl rfl (by kernel_rfl) (by decide) (fun K hK=>?_)
    refine Kd.R_append_rows_step Kd.bool (w0:=w) w.heap.size (by rfl) (.tmp 7) (.tmp 9) 22 4 (.bool false) 1 rfl Try.underlying22 info4 rfl (by decide) (by omega) v168 y167 l0_1 _ _ _ (fun k_=>some k_≠(v165:Value).ownBlock) (fun _=>False) rfl rfl ?aO ?aR (fun _ _ h=>h) (fun _ h=>h.elim) ?aF ?aB ?aS ?aL ?_
    (case aR=>repeat (first|exact (cB HR0_1.out HB.out)|(with_reducible refine cA ?_ _)|(with_reducible refine cN ?_ _)|(with_reducible refine cD ?_)))
    (case aB=>exact (by repeat (first|(with_reducible first|exact HB.out|apply oA|apply pN|apply o1|refine bS ?_ Be.out|refine bS ?_ Bf.out)|exact HB.out)))
    (case aF=>exact (fun k_ hk=>Kd.fresh' (rI (rL Bi.out)) k_ hk))
    (case aO=>exact (rL Bg.out))
    (case aS=>exact (bZ (by repeat (first|(with_reducible first|exact HB.out|apply oA|apply pN|apply o1|refine bS ?_ Be.out|refine bS ?_ Bf.out)|exact HB.out))))
    (case aL=>have:=LMc3.out;omega)
    intro v171 w16 ho hb hg hat
    rw [← Ny170.out] at ho
    have n0_:=Am (bG (g:=Bc) (o:=.cells #[.slice A0_0 l0_0.length c0_0,.slice A0_1 l0_1.length c0_1,.slice A0_2 l0_2.length c0_2] 27 (0,0)) (bL Ba.out) hg (rE Bg.out Ba.out (by decide)))
    have n1_:=Am (bG (g:=Bd) (o:=.cells #[.slice none 0 0,.slice none 0 0,.slice none 0 0] 27 (0,0)) (bL Bb.out) hg (rE Bg.out Bb.out (by decide)))
    have n2_:=Am (Kd.R_after (ok:=(fun _=>True)) (by (with_reducible repeat (first|apply rA|apply rN|apply rD));exact rM Bi.out (fun _ hk=>⟨trivial,hk⟩)) hg hat)
    have n3_:=Am (rO (rL Bh.out) (rY (rL Bg.out)) (by decide) hg)
    have n4_:=Am (hb)
    have n5_:=Am (ho)
    clear Ba
    clear Bb
    clear Bi
    clear Bh
    clear HB
    clear Bg
    have Ba:=n0_
    have Bb:=n1_
    have Bi:=n2_
    have Bh:=n3_
    have HB:=n4_
    have Bl:=n5_
    clear n0_ n1_ n2_ n3_ n4_ n5_
    clear ho hb hg hat
    refine hK.out _ _ ⟨(bC Ba.out 0).trans rfl,(bC Ba.out 1).trans rfl,(bC Ba.out 2).trans rfl⟩ (fun hHeld=>?_)
    clear hK K
    refine norm_ (by show Act.put _ (some 10) _=_;simp only [Act.put,lA,lZ,lS,iw,jw];rfl) ?_
    exact norm_ (by first|(simp only [putAll,Act.put,lA,lZ,lS];done)|(simp only [putAll,Act.put,lA,lZ,lS];rfl)) (hJ0_3_4_7_8 (v162,v165,v168,v171,v174) _ ⟨hHeld,(by (with_reducible repeat (first|apply rA|apply rN|apply rD));exact rM Bi.out (fun _ hk=>hk.2)),(rL Bl.out),(rL Bh.out),(bL Ba.out),(bL Bb.out),(by repeat (first|(with_reducible first|exact HB.out|apply oA|apply pN|apply o1|refine bS ?_ Be.out|refine bS ?_ Bf.out)|exact HB.out))⟩)
  ·skip
   rintro ⟨v162,v165,v168,v171⟩ w14 ⟨hS_,h0_,h1_,h2_,h3_,h4_⟩
   have n0_:Aside0 (Kd.R Kd.bool 4 w14 w.heap.size (fun k_=>some k_≠(v171:Value).ownBlock) v165 y164):=⟨h0_⟩
   have n1_:Aside0 (Kd.R Kd.bool 4 w14 w.heap.size (fun k_=>some k_≠(v165:Value).ownBlock) v171 y170):=⟨h1_⟩
   have n2_:Aside0 (w14.heap[Bc]?=some (.cells #[.slice A0_0 l0_0.length c0_0,.slice A0_1 l0_1.length c0_1,.slice A0_2 l0_2.length c0_2] 27 (0,0))):=⟨h2_⟩
   have n3_:Aside0 (w14.heap[Bd]?=some (.cells #[.slice none 0 0,.slice none 0 0,.slice none 0 0] 27 (0,0))):=⟨h3_⟩
   have n4_:Aside0 (Below w.heap.size w w14):=⟨h4_⟩
   clear Ba
   clear Bb
   clear HB
   clear h0_ h1_ h2_ h3_ h4_
   have Bi:=n0_
   have Bl:=n1_
   have Ba:=n2_
   have Bb:=n3_
   have HB:=n4_
   clear n0_ n1_ n2_ n3_ n4_
   have hHeld:w14.cell? ⟨Bc,0,none⟩=some (.slice A0_0 l0_0.length c0_0)∧w14.cell? ⟨Bc,1,none⟩=some (.slice A0_1 l0_1.length c0_1)∧w14.cell? ⟨Bc,2,none⟩=some (.slice A0_2 l0_2.length c0_2):=hS_
   refine norm_ (by simp only [putAll,Act.put,lA,lZ,lS];rfl) ?_
   refine oS 8 11 z57q7 HT_ rfl rfl (by kernel_rfl) (by decide) (fun K hK=>?_)
   refine Kd.R_lit_step (Kd.int .i64) _ 3 ?hg (N:=11) ?hd (xs:=([]:List Int)) (inner:=[]) (ok:=fun _=>True) (okp:=fun _=>True) ?hr ?hp (fun _ hk=>hk) trivial (bJ _ _) (nR _) (by simp) ?_;(case hd=>rfl);(case hg=>rfl);(case hr=>first|(go_simp;done)|(go_simp;rfl));(case hp=>exact (Reps.none _ _))
   intro v174 w15 ho16 hb hg_ hnew_
   clear hg_ hnew_
   (first|rw [← Ny173.out] at ho16|(simp only [Int.reduceToNat] at ho16;rw [← Ny173.out] at ho16))
   have n0_:=Am (rB (rL Bi.out) hb)
   have n1_:=Am (rB (rL Bl.out) hb)
   have n2_:=Am (rW ho16 (bZ (by repeat (first|(with_reducible first|exact HB.out|apply oA|apply pN|apply o1|refine bS ?_ Be.out|refine bS ?_ Bf.out)|exact HB.out))))
   have n3_:=Am (bX Ba.out hb)
   have n4_:=Am (bX Bb.out hb)
   have n5_:=Am (bP (by repeat (first|(with_reducible first|exact HB.out|apply oA|apply pN|apply o1|refine bS ?_ Be.out|refine bS ?_ Bf.out)|exact HB.out)) hb)
   clear Bi
   clear Bl
   clear Ba
   clear Bb
   clear HB
   have Bi:=n0_
   have Bl:=n1_
   have Bh:=n2_
   have Ba:=n3_
   have Bb:=n4_
   have HB:=n5_
   clear n0_ n1_ n2_ n3_ n4_ n5_
   clear hb ho16
   refine hK.out _ _ ⟨(bC Ba.out 0).trans rfl,(bC Ba.out 1).trans rfl,(bC Ba.out 2).trans rfl⟩ (fun hHeld=>?_)
   clear hK K
   refine norm_ (by show Act.put _ (some 11) _=_;simp only [Act.put,lA,lZ,lS,iw,jw];rfl) ?_
   exact norm_ (by first|(simp only [putAll,Act.put,lA,lZ,lS];done)|(simp only [putAll,Act.put,lA,lZ,lS];rfl)) (hJ0_3_4_7_8 (v162,v165,v168,v171,v174) _ ⟨hHeld,(rL Bi.out),(rL Bl.out),(rL Bh.out),(bL Ba.out),(bL Bb.out),(by repeat (first|(with_reducible first|exact HB.out|apply oA|apply pN|apply o1|refine bS ?_ Be.out|refine bS ?_ Bf.out)|exact HB.out))⟩)
 rintro ⟨v162,v165,v168,v171,v174⟩ w16 ⟨hS_,h0_,h1_,h2_,h3_,h4_,h5_⟩
 have n0_:Aside0 (Kd.R Kd.bool 4 w16 w.heap.size (fun k_=>some k_≠(v171:Value).ownBlock) v165 y164):=⟨h0_⟩
 have n1_:Aside0 (Kd.R Kd.bool 4 w16 w.heap.size (fun k_=>some k_≠(v165:Value).ownBlock) v171 y170):=⟨h1_⟩
 have n2_:Aside0 (Kd.R (Kd.int .i64) 3 w16 w.heap.size (fun _=>True) v174 y173):=⟨h2_⟩
 have n3_:Aside0 (w16.heap[Bc]?=some (.cells #[.slice A0_0 l0_0.length c0_0,.slice A0_1 l0_1.length c0_1,.slice A0_2 l0_2.length c0_2] 27 (0,0))):=⟨h3_⟩
 have n4_:Aside0 (w16.heap[Bd]?=some (.cells #[.slice none 0 0,.slice none 0 0,.slice none 0 0] 27 (0,0))):=⟨h4_⟩
 have n5_:Aside0 (Below w.heap.size w w16):=⟨h5_⟩
 clear Ba
 clear Bb
 clear HB
 clear h0_ h1_ h2_ h3_ h4_ h5_
 have Bi:=n0_
 have Bl:=n1_
 have Bh:=n2_
 have Ba:=n3_
 have Bb:=n4_
 have HB:=n5_
 clear n0_ n1_ n2_ n3_ n4_ n5_
 have hHeld:w16.cell? ⟨Bc,0,none⟩=some (.slice A0_0 l0_0.length c0_0)∧w16.cell? ⟨Bc,1,none⟩=some (.slice A0_1 l0_1.length c0_1)∧w16.cell? ⟨Bc,2,none⟩=some (.slice A0_2 l0_2.length c0_2):=hS_
 refine norm_ (by simp only [putAll,Act.put,lA,lZ,lS];rfl) ?_
 refine oS 11 14 z57q20 HT_ rfl rfl (by kernel_rfl) (by decide) (fun K hK=>?_)
 refine Kd.R_append_rows_step (Kd.int .i64) (w0:=w) w.heap.size (by rfl) (.tmp 11) (.tmp 13) 23 3 (.int .i64 0) 8 rfl Try.underlying23 info3 rfl (by decide) (by omega) v174 y173 l0_2 _ _ _ (fun _=>True) (fun _=>False) rfl rfl ?aO ?aR (fun _ _ h=>h) (fun _ h=>h.elim) ?aF ?aB ?aS ?aL ?_
 (case aR=>repeat (first|exact (cB HR0_2.out HB.out)|(with_reducible refine cA ?_ _)|(with_reducible refine cN ?_ _)|(with_reducible refine cD ?_)))
 (case aB=>exact (by repeat (first|(with_reducible first|exact HB.out|apply oA|apply pN|apply o1|refine bS ?_ Be.out|refine bS ?_ Bf.out)|exact HB.out)))
 (case aF=>exact (fun _ _=>trivial))
 (case aO=>exact (rL Bh.out))
 (case aS=>exact (bZ (by repeat (first|(with_reducible first|exact HB.out|apply oA|apply pN|apply o1|refine bS ?_ Be.out|refine bS ?_ Bf.out)|exact HB.out))))
 (case aL=>have:=LMc4.out;omega)
 intro v177 w17 ho hb hg hat
 rw [← Ny176.out] at ho
 have n0_:=Am (bG (g:=Bc) (o:=.cells #[.slice A0_0 l0_0.length c0_0,.slice A0_1 l0_1.length c0_1,.slice A0_2 l0_2.length c0_2] 27 (0,0)) (bL Ba.out) hg (rE Bh.out Ba.out (by decide)))
 have n1_:=Am (bG (g:=Bd) (o:=.cells #[.slice none 0 0,.slice none 0 0,.slice none 0 0] 27 (0,0)) (bL Bb.out) hg (rE Bh.out Bb.out (by decide)))
 have n2_:=Am (rO (rL Bi.out) (rY (rL Bh.out)) (by decide) hg)
 have n3_:=Am (rO (rL Bl.out) (rY (rL Bh.out)) (by decide) hg)
 have n4_:=Am (hb)
 have n5_:=Am (ho)
 clear Ba
 clear Bb
 clear Bi
 clear Bl
 clear HB
 clear Bh
 have Ba:=n0_
 have Bb:=n1_
 have Bi:=n2_
 have Bl:=n3_
 have HB:=n4_
 have Bn:=n5_
 clear n0_ n1_ n2_ n3_ n4_ n5_
 clear ho hb hg hat
 obtain ⟨Ao18,co18,eo18⟩:=rC Bn.out
 (first|subst eo18|(injection eo18 with f1_ f2_ f3_;have f4_:=f1_.symm;have f5_:=f3_.symm;clear f1_ f2_ f3_;subst f4_;subst f5_))
 obtain ⟨Ao19,co19,eo19⟩:=rC Bl.out
 (first|subst eo19|(injection eo19 with f1_ f2_ f3_;have f4_:=f1_.symm;have f5_:=f3_.symm;clear f1_ f2_ f3_;subst f4_;subst f5_))
 obtain ⟨Ao20,co20,eo20⟩:=rC Bi.out
 (first|subst eo20|(injection eo20 with f1_ f2_ f3_;have f4_:=f1_.symm;have f5_:=f3_.symm;clear f1_ f2_ f3_;subst f4_;subst f5_))
 refine hK.out _ _ ⟨(bC Ba.out 0).trans rfl,(bC Ba.out 1).trans rfl,(bC Ba.out 2).trans rfl⟩ (fun hHeld=>?_)
 clear hK K
 refine norm_ (by show Act.put _ (some 14) _=_;simp only [Act.put,lA,lZ,lS,iw,jw];rfl) ?_
 refine pS 12 15 z57q21 HT_ rfl rfl (by kernel_rfl) (by rfl) (by intro w';go_simp;with_reducible rfl) (by simp only [Act.put,lA,lZ,lS,iw,jw];rfl) ?_
 refine oU 13 none z57q22 HT_ rfl rfl (by kernel_rfl) (by decide) (fun K hK=>?_)
 have hs21:=cz0 Bb.out
 have hfs21:=bF Bb.out 0
 have hns21_0:=Bk.out
 have hms21_0:=Bm.out
 have hs22:=cz1 Bb.out
 have hfs22:=bF Bb.out 1
 have hns22_0:=Bk.out
 have hms22_0:=Bm.out
 have hs23:=cz2 Bb.out
 have hfs23:=bF Bb.out 2
 have hns23_0:=Bk.out
 have hms23_0:=Bm.out
 refine skip_ (w1:=?_) (by rfl) rfl ?_ ?_
 rotate_left;(go_simp;rfl)
 refine hK.out _ _ ⟨((cF (p:=⟨Bd,_,none⟩) Bk.out _).trans (((cF (p:=⟨Bd,_,none⟩) Bk.out _).trans (((cF (p:=⟨Bd,_,none⟩) Bk.out _).trans (hHeld.1)))))),((cF (p:=⟨Bd,_,none⟩) Bk.out _).trans (((cF (p:=⟨Bd,_,none⟩) Bk.out _).trans (((cF (p:=⟨Bd,_,none⟩) Bk.out _).trans (hHeld.2.1)))))),((cF (p:=⟨Bd,_,none⟩) Bk.out _).trans (((cF (p:=⟨Bd,_,none⟩) Bk.out _).trans (((cF (p:=⟨Bd,_,none⟩) Bk.out _).trans (hHeld.2.2))))))⟩ (fun hHeld=>?_)
 clear hK K
 refine done_ (done_of HT_.out (by kernel_rfl)) ?_
 try go_wp2
 refine bodyPost_ret (results_cell_row rfl _ _ Bd 27 #[.slice Ao20 y164.length co20,.slice Ao19 y170.length co19,.slice Ao18 y176.length co18] (0,0) _ rfl (by (with_reducible repeat (first|refine bN ?_ _|refine bD ?_|refine bA ?_ _));refine bT (cs:=#[.slice Ao20 y164.length co20,.slice Ao19 y170.length co19,.slice none 0 0]) ?_ 2 _ rfl;(with_reducible repeat (first|refine bN ?_ _|refine bD ?_|refine bA ?_ _));refine bT (cs:=#[.slice Ao20 y164.length co20,.slice none 0 0,.slice none 0 0]) ?_ 1 _ rfl;(with_reducible repeat (first|refine bN ?_ _|refine bD ?_|refine bA ?_ _));refine bT (cs:=#[.slice none 0 0,.slice none 0 0,.slice none 0 0]) ?_ 0 _ rfl;(with_reducible repeat (first|refine bN ?_ _|refine bD ?_|refine bA ?_ _));exact Bb.out) Try.underlying27 rfl (by kernel_rfl)) rfl ?_
 exact ⟨_,_,_,by first|rfl|(simp [errW_none,errW_some] <;> rfl)|(simp [*,errW_none,errW_some] <;> rfl),by (with_reducible repeat (first|apply rA|apply rN|apply rD));exact rM (rF (p:=⟨Bd,2,none⟩) (rF (p:=⟨Bd,1,none⟩) (rF (p:=⟨Bd,0,none⟩) (rT Bi.out Bb.out (by decide)) (fun _ hk=>hk.2) (.slice Ao20 y164.length co20)) (fun _ hk=>hk.2) (.slice Ao19 y170.length co19)) (fun _ hk=>hk.2) (.slice Ao18 y176.length co18)) (fun _ hk=>hk.1),by (with_reducible repeat (first|apply rA|apply rN|apply rD));exact rM (rF (p:=⟨Bd,2,none⟩) (rF (p:=⟨Bd,1,none⟩) (rF (p:=⟨Bd,0,none⟩) (rT Bl.out Bb.out (by decide)) (fun _ hk=>hk.2) (.slice Ao20 y164.length co20)) (fun _ hk=>hk.2) (.slice Ao19 y170.length co19)) (fun _ hk=>hk.2) (.slice Ao18 y176.length co18)) (fun _ hk=>hk.1),by (with_reducible repeat (first|apply rA|apply rN|apply rD));exact rM (rF (p:=⟨Bd,2,none⟩) (rF (p:=⟨Bd,1,none⟩) (rF (p:=⟨Bd,0,none⟩) (rT Bn.out Bb.out (by decide)) (fun _ hk=>hk.2) (.slice Ao20 y164.length co20)) (fun _ hk=>hk.2) (.slice Ao19 y170.length co19)) (fun _ hk=>hk.2) (.slice Ao18 y176.length co18)) (fun _ hk=>trivial),by repeat (first|(with_reducible first|exact HB.out|apply oA|apply pN|apply o1|refine bS ?_ Be.out|refine bS ?_ Bf.out)|exact HB.out)⟩
end Go.Proofs.Ytehekikjadjdaaa.PFnExactSigsRun
