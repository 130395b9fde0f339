/- Proved here, without a condition beyond those that each theorem states: what the Go functions named below do is what the plain functions of the same names say. Written by xprint.py, a program of this session. -/
import Derived.Test.YtfhcgmfodfcpeaaPFnQueueLessx0
namespace Go.Proofs.Ytfhcgmfodfcpeaa.PFnQueueLess
open Go.RowKit Go.Proofs.YtfhcgmfodfcpeaaW.PrintWords Go.Proofs.YtfhcgmfodfcpeaaW.PrintLast Go.Proofs.YtfhcgmfodfcpeaaW.PrintMore
attribute [local go_sem] max2_int min2_int max_two min_two max_three min_three max_four min_four   -- for this text's walks alone
set_option linter.unusedVariables false
set_option linter.unusedSimpArgs false

attribute [local go_sem ↓] isSome_setCell_
/-! ### spec_l11Less: function 46 -/
def spec_l11Less.f (l0_0 : List (S40)) (a0_1 : Int) (a1 : Int) : Option ((List (S40)) × Int) := (some (([] : List (S40)) : List (S40))).bind fun y281 => (if 0 ≤ a1 then (if a1 ≤ (l0_0.length : Int) then ((some (l0_0.take (a1 : Int).toNat : List (S40))).bind fun y284 => (if y281.length + y284.length < 4398046511104 then ((some (y281 ++ y284 : List (S40))).bind fun y288 => (if 0 ≤ (wrap64 (a1 + 1)) then (if (wrap64 (a1 + 1)) ≤ (l0_0.length : Int) then ((some (l0_0.drop ((wrap64 (a1 + 1)) : Int).toNat : List (S40))).bind fun y291 => (if y288.length + y291.length < 4398046511104 then (some ((y288 ++ y291), a0_1)) else (none))) else (none)) else (none))) else (none))) else (none)) else (none))
def spec_l11Less.T1 : Bool × List (List Nat × List Nat) := (true, [([], []), ([], []), ([1], [1]), ([], []), ([2, 3], [2, 3]), ([0, 4], [0, 4]), ([], []), ([6], [6]), ([], []), ([8], [8]), ([7, 9], [7, 9]), ([5, 10, 5], [5, 10]), ([0, 1, 2, 3, 4, 5, 6, 7, 8, 9, 10, 11], []), ([12, 11, 11, 0, 1, 2, 3, 4, 5, 6, 7, 8, 9, 10, 11], [11, 12])])
def spec_l11Less.B1 : List Nat := [0, 0, 2, 0, 14, 31, 0, 64, 0, 256, 960, 2047, 4095, 8191]
theorem spec_l11Less.tab1 : rtab .any (opsOf Try.f46 1) = spec_l11Less.T1 := by kernel_rfl
theorem spec_l11Less.bits1 : waitsOk spec_l11Less.T1.2 spec_l11Less.B1 = true := by kernel_rfl
abbrev z46q0 : Array Bool := bQ 14 0
abbrev z46q1 : Array Bool := bQ 14 2
abbrev z46q2 : Array Bool := bQ 14 10
abbrev z46q3 : Array Bool := bQ 14 74
abbrev z46q4 : Array Bool := bQ 14 330
abbrev z46q5 : Array Bool := bQ 14 842
abbrev z46q6 : Array Bool := bQ 14 846
abbrev z46q7 : Array Bool := bQ 14 862
abbrev z46q8 : Array Bool := bQ 14 990
abbrev z46q9 : Array Bool := bQ 14 2014
abbrev z46q10 : Array Bool := bQ 14 2015
abbrev z46q11 : Array Bool := bQ 14 2047
abbrev z46q12 : Array Bool := bQ 14 4095
abbrev z46q13 : Array Bool := bQ 14 8191
abbrev z46q14 : Array Bool := bQ 14 16383
set_option maxHeartbeats 2000000 in
set_option maxRecDepth 100000 in
theorem spec_l11Less.calls (A0_0:Option Addr) (c0_0:Nat) (l0_0:List (S40)) (a0_1:Int) (a1:Int) (r1:List (S40)) (r2:Int) (w:World) (hr0_0:Kd.C k40 w A0_0 l0_0.length l0_0) (hc0_0:l0_0.length≤c0_0) (h:spec_l11Less.f l0_0 a0_1 a1=some (r1,r2)) :
  Calls Try.prog 46 #[.agg #[.slice A0_0 l0_0.length c0_0,.int .i64 a0_1],.int .i64 a1] w fun e w'=>∃ v0_:Value,e=.returned (.agg #[v0_,.int .i64 r2])∧Kd.R k40 40 w' w.heap.size (fun _=>True) v0_ r1∧Below w.heap.size w w':=by
 have hu25:=Try.underlying25
 have HR0_0:=Am hr0_0
 have HC0_0:=Am hc0_0
 clear hr0_0 hc0_0
 have HB:=Am (Below.refl w.heap.size w)
 have H:((some (([]:List (S40)):List (S40))).bind fun y281=>(if 0≤a1 then (if a1≤(l0_0.length:Int) then ((some (l0_0.take (a1:Int).toNat:List (S40))).bind fun y284=>(if y281.length + y284.length<4398046511104 then ((some (y281 ++ y284:List (S40))).bind fun y288=>(if 0≤(wrap64 (a1 + 1)) then (if (wrap64 (a1 + 1))≤(l0_0.length:Int) then ((some (l0_0.drop ((wrap64 (a1 + 1)):Int).toNat:List (S40))).bind fun y291=>(if y288.length + y291.length<4398046511104 then (some ((y288 ++ y291),a0_1)) else (none))) else (none)) else (none))) else (none))) else (none)) else (none)))=some (r1,r2):=h
 clear h
 obtain ⟨y281,hy281⟩:∃ y_:List (S40),y_=(([]:List (S40))):=⟨_,rfl⟩
 replace H:(if 0≤a1 then (if a1≤(l0_0.length:Int) then ((some (l0_0.take (a1:Int).toNat:List (S40))).bind fun y284=>(if y281.length + y284.length<4398046511104 then ((some (y281 ++ y284:List (S40))).bind fun y288=>(if 0≤(wrap64 (a1 + 1)) then (if (wrap64 (a1 + 1))≤(l0_0.length:Int) then ((some (l0_0.drop ((wrap64 (a1 + 1)):Int).toNat:List (S40))).bind fun y291=>(if y288.length + y291.length<4398046511104 then (some ((y288 ++ y291),a0_1)) else (none))) else (none)) else (none))) else (none))) else (none)) else (none))=some (r1,r2):=by first|(rw [hy281];with_reducible exact H)|(have H2_:=(Option.bind_some _ _).symm.trans H;rw [hy281];with_reducible exact H2_)|(have H2_:=(Option.bind_some _ _).symm.trans H;with_reducible exact H2_)|with_reducible exact H|(rw [hy281];exact H)|exact H
 have Ny281:=Am hy281
 clear hy281
 by_cases c3:0≤a1
 rotate_left
 ·rw [if_neg c3] at H
  exact absurd H (by simp)

 rw [if_pos c3] at H
 have c3b0:=eq_true c3
 have c3b1:decide (0≤a1)=true:=decide_eq_true c3
 clear c3
 by_cases c4:a1≤(l0_0.length:Int)
 rotate_left
 ·rw [if_neg c4] at H
  exact absurd H (by simp)
 rw [if_pos c4] at H
 have c4b0:=eq_true c4
 have c4b1:decide (a1≤(l0_0.length:Int))=true:=decide_eq_true c4
 clear c4
 obtain ⟨y284,hy284⟩:∃ y_:List (S40),y_=(l0_0.take (a1:Int).toNat):=⟨_,rfl⟩
 replace H:(if y281.length + y284.length<4398046511104 then ((some (y281 ++ y284:List (S40))).bind fun y288=>(if 0≤(wrap64 (a1 + 1)) then (if (wrap64 (a1 + 1))≤(l0_0.length:Int) then ((some (l0_0.drop ((wrap64 (a1 + 1)):Int).toNat:List (S40))).bind fun y291=>(if y288.length + y291.length<4398046511104 then (some ((y288 ++ y291),a0_1)) else (none))) else (none)) else (none))) else (none))=some (r1,r2):=by first|(rw [hy284];with_reducible exact H)|(have H2_:=(Option.bind_some _ _).symm.trans H;rw [hy284];with_reducible exact H2_)|(have H2_:=(Option.bind_some _ _).symm.trans H;with_reducible exact H2_)|with_reducible exact H|(rw [hy284];exact H)|exact H
 have Ny284:=Am hy284
 clear hy284
 by_cases c5:y281.length + y284.length<4398046511104
 rotate_left
 ·rw [if_neg c5] at H
  exact absurd H (by simp)
 rw [if_pos c5] at H
 have LMc5:=Am c5
 clear c5
 obtain ⟨y288,hy288⟩:∃ y_:List (S40),y_=(y281 ++ y284):=⟨_,rfl⟩
 replace H:(if 0≤(wrap64 (a1 + 1)) then (if (wrap64 (a1 + 1))≤(l0_0.length:Int) then ((some (l0_0.drop ((wrap64 (a1 + 1)):Int).toNat:List (S40))).bind fun y291=>(if y288.length + y291.length<4398046511104 then (some ((y288 ++ y291),a0_1)) else (none))) else (none)) else (none))=some (r1,r2):=by first|(rw [hy288];with_reducible exact H)|(have H2_:=(Option.bind_some _ _).symm.trans H;rw [hy288];with_reducible exact H2_)|(have H2_:=(Option.bind_some _ _).symm.trans H;with_reducible exact H2_)|with_reducible exact H|(rw [hy288];exact H)|exact H
 have Ny288:=Am hy288
 clear hy288
 obtain ⟨ji6,hji6⟩:∃ j_:Int,(wrap64 (a1 + 1))=j_:=⟨_,rfl⟩
 replace H:(if 0≤(ji6) then (if (ji6)≤(l0_0.length:Int) then ((some (l0_0.drop ((ji6):Int).toNat:List (S40))).bind fun y291=>(if y288.length + y291.length<4398046511104 then (some ((y288 ++ y291),a0_1)) else (none))) else (none)) else (none))=some (r1,r2):=by first|(rw [hji6] at H;exact H)|(simp only [hji6] at H ⊢;exact H)
 have hji6w:(IntKind.i64.wrap (a1 + 1))=ji6:=(i64_w _).trans hji6
 by_cases c7:0≤(ji6)
 rotate_left
 ·rw [if_neg c7] at H
  exact absurd H (by simp)
 rw [if_pos c7] at H
 have c7b0:=eq_true c7
 have c7b1:decide (0≤(ji6))=true:=decide_eq_true c7
 clear c7
 by_cases c8:(ji6)≤(l0_0.length:Int)
 rotate_left
 ·rw [if_neg c8] at H
  exact absurd H (by simp)
 rw [if_pos c8] at H
 have c8b0:=eq_true c8
 have c8b1:decide ((ji6)≤(l0_0.length:Int))=true:=decide_eq_true c8
 clear c8
 obtain ⟨y291,hy291⟩:∃ y_:List (S40),y_=(l0_0.drop ((ji6):Int).toNat):=⟨_,rfl⟩
 replace H:(if y288.length + y291.length<4398046511104 then (some ((y288 ++ y291),a0_1)) else (none))=some (r1,r2):=by first|(rw [hy291];with_reducible exact H)|(have H2_:=(Option.bind_some _ _).symm.trans H;rw [hy291];with_reducible exact H2_)|(have H2_:=(Option.bind_some _ _).symm.trans H;with_reducible exact H2_)|with_reducible exact H|(rw [hy291];exact H)|exact H
 have Ny291:=Am hy291
 clear hy291
 by_cases c9:y288.length + y291.length<4398046511104
 rotate_left
 ·rw [if_neg c9] at H
  exact absurd H (by simp)
 rw [if_pos c9] at H
 have LMc9:=Am c9
 clear c9
 obtain ⟨y295,hy295⟩:∃ y_:List (S40),y_=(y288 ++ y291):=⟨_,rfl⟩
 replace H:(some (y295,a0_1))=some (r1,r2):=by first|(rw [hy295];with_reducible exact H)|(have H2_:=(Option.bind_some _ _).symm.trans H;rw [hy295];with_reducible exact H2_)|(have H2_:=(Option.bind_some _ _).symm.trans H;with_reducible exact H2_)|with_reducible exact H|(rw [hy295];exact H)|exact H
 have Ny295:=Am hy295
 clear hy295
 simp only [Option.some.injEq,Prod.mk.injEq] at H
 obtain ⟨rfl,rfl⟩:=H
 go_enter Try.func46,Try.ntmps46
 try go_wp2_with (first|((with_reducible refine gate_dst (N:=2) rfl ?_);refine box_event ?hg (N:=2) ?hd (cs:=#[.slice A0_0 l0_0.length c0_0,.int .i64 a0_1]) (t:=25) ?hr ?_;(case hd=>rfl);(case hg=>rfl);(case hr=>first|(go_simp;done)|(go_simp;rfl));intro Bc hg w10 hbox hb;have n0_:=Am (bP (by repeat (first|(with_reducible first|exact HB.out|apply oA|apply pN|apply o1)|exact HB.out)) hb);have n1_:=Am (hbox);have n2_:=Am ((by rw [hg];exact (bZ (by repeat (first|(with_reducible first|exact HB.out|apply oA|apply pN|apply o1)|exact HB.out))):w.heap.size≤Bc));have n3_:=Am ((by rw [hg];exact (bZ (by repeat (first|(with_reducible first|exact HB.out|apply oA|apply pN|apply o1)|exact HB.out))):w.heap.size≤Bc));clear HB;revert n0_ n1_ n2_ n3_;intro HB Ba Bt Be;clear hb hbox hg)|((with_reducible refine gate_dst (N:=4) rfl ?_);refine box_event ?hg (N:=4) ?hd (cs:=#[.slice none 0 0,.int .i64 0]) (t:=25) ?hr ?_;(case hd=>rfl);(case hg=>rfl);(case hr=>first|(go_simp;done)|(go_simp;rfl));intro Bd hg w11 hbox hb;have n0_:=Am (bX Ba.out hb);have n1_:=Am (bP (by repeat (first|(with_reducible first|exact HB.out|apply oA|apply pN|apply o1|refine bS ?_ Be.out)|exact HB.out)) hb);have n2_:=Am (hbox);have n3_:=Am ((by rw [hg];exact (bZ (by repeat (first|(with_reducible first|exact HB.out|apply oA|apply pN|apply o1|refine bS ?_ Be.out)|exact HB.out))):w.heap.size≤Bd));have n4_:=Am ((by rw [hg];exact (bZ (by repeat (first|(with_reducible first|exact HB.out|apply oA|apply pN|apply o1|refine bS ?_ Be.out)|exact HB.out))):w.heap.size≤Bd));have n5_:=Am ((nL Ba.out hg));have n6_:=Am ((nG Ba.out hg));clear Ba HB;revert n0_ n1_ n2_ n3_ n4_ n5_ n6_;intro Ba HB Bb Bu Bf Bh Bg;clear hb hbox hg))
 have n0_:=Am (bD Ba.out)
 have n1_:=Am (bD Bb.out)
 have n2_:=Am (o1 HB.out)
 clear Ba
 clear Bb
 clear HB
 have Ba:=n0_
 have Bb:=n1_
 have HB:=n2_
 clear n0_ n1_ n2_
 have q13:(a1:Int)≤((l0_0.length:Int):Int):=of_decide_eq_true (by first|(with_reducible assumption)|assumption)
 obtain ⟨i013,hi013,_,hsz13,_⟩:=info_parts info40
 have hroom13:l0_0.length≤c0_0:=HC0_0.out
 have hC13:Kd.C k40 _ A0_0 l0_0.length l0_0:=HR0_0.out
 have hcut13:=cut_to (P:=Try.prog) 23 40 .i64 Try.underlying23 hi013 A0_0 l0_0.length c0_0 a1 (of_decide_eq_true (by first|(with_reducible assumption)|assumption)) q13 hroom13
 have hr13:=Kd.C_take (m:=(a1:Int).toNat) hC13 (by omega)
 have hy13:y284.length=(a1:Int).toNat:=(by rw [Ny284.out,lT];omega)
 rw [← Ny284.out] at hr13
 rw [← hy13] at hcut13
 have HR287:=Am hr13
 have HC287:=Am (show y284.length≤c0_0 from by omega)
 clear hr13 hC13 hroom13 hi013 hsz13
 have KY13:=Am hy13
 clear hy13
 replace q13:=eq_true q13
 have q14:((ji6):Int)≤((l0_0.length:Int):Int):=of_decide_eq_true (by first|(with_reducible assumption)|assumption)
 obtain ⟨i014,hi014,_,hsz14,_⟩:=info_parts info40
 have hroom14:l0_0.length≤c0_0:=HC0_0.out
 have hC14:Kd.C k40 _ A0_0 l0_0.length l0_0:=HR0_0.out
 have q014:(0:Int)≤((ji6):Int):=of_decide_eq_true (by first|(with_reducible assumption)|assumption)
 have hcut14:=cut_from (P:=Try.prog) 23 40 .i64 Try.underlying23 hi014 4 hsz14 A0_0 l0_0.length c0_0 (ji6) q014 q14
 have hr14:=Kd.C_drop (m:=((ji6):Int).toNat) (c:=c0_0) hC14 (by omega) hroom14
 obtain ⟨A14,hA14⟩:∃ A1,A1=(if c0_0=((ji6):Int).toNat then A0_0 else (A0_0:Option Addr).map (·.add (((ji6):Int).toNat * 4))):=⟨_,rfl⟩
 obtain ⟨c14,hc14⟩:∃ c1,c1=c0_0 - ((ji6):Int).toNat:=⟨_,rfl⟩
 have hy14:y291.length=l0_0.length - ((ji6):Int).toNat:=(by rw [Ny291.out,lD] <;> omega)
 rw [show (l0_0).drop ((ji6):Int).toNat=y291 from Ny291.out.symm] at hr14
 replace hr14:Kd.C k40 _ A14 y291.length y291:=(by rw [hA14];exact hr14)
 rw [← hy14,← hA14,← hc14] at hcut14
 have HR294:=Am hr14
 have HC294:=Am (show y291.length≤c14 from by rw [hy14,hc14];exact Nat.sub_le_sub_right hroom14 _)
 clear hr14 hC14 hroom14 hi014 hsz14 hc14
 have KY14:=Am hy14
 have KA14:=Am hA14
 clear hy14 hA14
 replace q14:=eq_true q14
 refine start_ (n:=14) (S:=fun w'=>w'.cell? ⟨Bc,0,none⟩=some (.slice A0_0 l0_0.length c0_0)∧w'.cell? ⟨Bc,1,none⟩=some (.int .i64 a0_1)) (ds:=[13]) z46q0 (by kernel_rfl) rfl rfl ⟨(bC Ba.out 0).trans rfl,(bC Ba.out 1).trans rfl⟩ (fun hHeld=>?_);refine with_st spec_l11Less.tab1 spec_l11Less.bits1 (fun _ _ _ _ _ h=>h) (fun HT_=>?_)
 generalize w11.drew=w12 at Ba Bb HB HR287 HR294 hHeld ⊢
 refine pS 1 6 z46q1 HT_ rfl rfl (by kernel_rfl) (by rfl) (by intro w';go_simp;with_reducible rfl) (by simp only [Act.put,lA,lZ,lS,iw,jw];rfl) ?_
 refine pS 3 8 z46q2 HT_ rfl rfl (by kernel_rfl) (by rfl) (by intro w';go_simp;with_reducible rfl) (by simp only [Act.put,lA,lZ,lS,iw,jw];rfl) ?_
 refine pS 6 11 z46q3 HT_ rfl rfl (by kernel_rfl) (by rfl) (by intro w';go_simp;with_reducible rfl) (by simp only [Act.put,lA,lZ,lS,iw,jw];rfl) ?_
 refine pS 8 13 z46q4 HT_ rfl rfl (by kernel_rfl) (by rfl) (by intro w';go_simp;with_reducible rfl) (by simp only [Act.put,lA,lZ,lS,iw,jw];rfl) ?_
 refine pS 9 14 z46q5 HT_ rfl rfl (by kernel_rfl) (by rfl) (by intro w';go_simp;with_reducible rfl) (by simp only [Act.put,lA,lZ,lS,iw,jw];rfl) ?_
 refine tS 2 7 z46q6 HT_ hHeld rfl rfl (by kernel_rfl) (by rfl) (by rintro w' ⟨s0,s1⟩;go_simp;with_reducible rfl) (by simp only [Act.put,lA,lZ,lS,iw,jw];rfl) ?_
 refine pS 4 9 z46q7 HT_ rfl rfl (by kernel_rfl) (by rfl) (by intro w';go_simp;with_reducible rfl) (by simp only [Act.put,lA,lZ,lS,iw,jw];rfl) ?_
 refine tS 7 12 z46q8 HT_ hHeld rfl rfl (by kernel_rfl) (by rfl) (by rintro w' ⟨s0,s1⟩;go_simp;with_reducible rfl) (by simp only [Act.put,lA,lZ,lS,iw,jw];rfl) ?_
 refine pS 10 15 z46q9 HT_ rfl rfl (by kernel_rfl) (by rfl) (by intro w';go_simp;with_reducible rfl) (by simp only [Act.put,lA,lZ,lS,iw,jw];rfl) ?_
 refine oS 0 5 z46q10 HT_ rfl rfl (by kernel_rfl) (by decide) (fun K hK=>?_)
 refine Kd.R_lit_step k40 _ 40 ?hg (N:=5) ?hd (xs:=([]:List (S40))) (inner:=[]) (ok:=fun _=>True) (okp:=fun _=>True) ?hr ?hp (fun _ hk=>hk) trivial (Below.refl _ _) (Nat.le_refl _) (by simp) ?_;(case hd=>rfl);(case hg=>rfl);(case hr=>first|(go_simp;done)|(go_simp;rfl));(case hp=>exact (Reps.none _ _))
 intro v282 w15 ho16 hb hg_ hnew_
 clear hg_ hnew_
 (first|rw [← Ny281.out] at ho16|(simp only [Int.reduceToNat] at ho16;rw [← Ny281.out] at ho16))
 have n0_:=Am (Kd.R_lower ho16 (bZ (by repeat (first|(with_reducible first|exact HB.out|apply oA|apply pN|apply o1|refine bS ?_ Be.out|refine bS ?_ Bf.out)|exact HB.out))))
 have n1_:=Am (bX Ba.out hb)
 have n2_:=Am (bX Bb.out hb)
 have n3_:=Am (bP (by repeat (first|(with_reducible first|exact HB.out|apply oA|apply pN|apply o1|refine bS ?_ Be.out|refine bS ?_ Bf.out)|exact HB.out)) hb)
 clear Ba
 clear Bb
 clear HB
 have Bi:=n0_
 have Ba:=n1_
 have Bb:=n2_
 have HB:=n3_
 clear n0_ n1_ n2_ n3_
 clear hb ho16
 refine hK.out _ _ ⟨(bC Ba.out 0).trans rfl,(bC Ba.out 1).trans rfl⟩ (fun hHeld=>?_)
 clear hK K
 refine norm_ (by show Act.put _ (some 5) _=_;simp only [Act.put,lA,lZ,lS,iw,jw];rfl) ?_
 refine oS 5 10 z46q11 HT_ rfl rfl (by kernel_rfl) (by decide) (fun K hK=>?_)
 refine Kd.R_append_rows_step k40 (w0:=w) w.heap.size (by rfl) (.tmp 5) (.tmp 9) 23 40 (.agg #[(.int .i64 0),(.int .i64 0),(.int .i64 0),(.bool false)]) 32 rfl Try.underlying23 info40 rfl (by decide) (by omega) v282 y281 y284 _ _ _ (fun _=>True) (fun _=>False) rfl rfl ?aO ?aR (fun _ _ h=>h) (fun _ h=>h.elim) ?aF ?aB ?aS ?aL ?_
 (case aR=>repeat (first|exact (cB HR287.out HB.out)|(with_reducible refine cA ?_ _)|(with_reducible refine cN ?_ _)|(with_reducible refine cD ?_)))
 (case aB=>exact (by repeat (first|(with_reducible first|exact HB.out|apply oA|apply pN|apply o1|refine bS ?_ Be.out|refine bS ?_ Bf.out)|exact HB.out)))
 (case aF=>exact (fun _ _=>trivial))
 (case aO=>exact (rL Bi.out))
 (case aS=>exact (bZ (by repeat (first|(with_reducible first|exact HB.out|apply oA|apply pN|apply o1|refine bS ?_ Be.out|refine bS ?_ Bf.out)|exact HB.out))))
 (case aL=>have:=LMc5.out;omega)
 intro v289 w17 ho hb hg hat
 rw [← Ny288.out] at ho
 have n0_:=Am (blk_grown (g:=Bc) (o:=.cells #[.slice A0_0 l0_0.length c0_0,.int .i64 a0_1] 25 (0,0)) (bL Ba.out) hg (Kd.R_ne Bi.out Ba.out (by decide)))
 have n1_:=Am (blk_grown (g:=Bd) (o:=.cells #[.slice none 0 0,.int .i64 0] 25 (0,0)) (bL Bb.out) hg (Kd.R_ne Bi.out Bb.out (by decide)))
 have n2_:=Am (hb)
 have n3_:=Am (ho)
 clear Ba
 clear Bb
 clear HB
 clear Bi
 have Ba:=n0_
 have Bb:=n1_
 have HB:=n2_
 have Bj:=n3_
 clear n0_ n1_ n2_ n3_
 clear ho hb hg hat
 refine hK.out _ _ ⟨(bC Ba.out 0).trans rfl,(bC Ba.out 1).trans rfl⟩ (fun hHeld=>?_)
 clear hK K
 refine norm_ (by show Act.put _ (some 10) _=_;simp only [Act.put,lA,lZ,lS,iw,jw];rfl) ?_
 refine oS 11 16 z46q12 HT_ rfl rfl (by kernel_rfl) (by decide) (fun K hK=>?_)
 refine Kd.R_append_rows_step k40 (w0:=w) w.heap.size (by rfl) (.tmp 10) (.tmp 15) 23 40 (.agg #[(.int .i64 0),(.int .i64 0),(.int .i64 0),(.bool false)]) 32 rfl Try.underlying23 info40 rfl (by decide) (by omega) v289 y288 y291 _ _ _ (fun _=>True) (fun _=>False) rfl rfl ?aO ?aR (fun _ _ h=>h) (fun _ h=>h.elim) ?aF ?aB ?aS ?aL ?_
 (case aR=>repeat (first|exact (cB HR294.out HB.out)|(with_reducible refine cA ?_ _)|(with_reducible refine cN ?_ _)|(with_reducible refine cD ?_)))
 (case aB=>exact (by repeat (first|(with_reducible first|exact HB.out|apply oA|apply pN|apply o1|refine bS ?_ Be.out|refine bS ?_ Bf.out)|exact HB.out)))
 (case aF=>exact (fun _ _=>trivial))
 (case aO=>exact (rL Bj.out))
 (case aS=>exact (bZ (by repeat (first|(with_reducible first|exact HB.out|apply oA|apply pN|apply o1|refine bS ?_ Be.out|refine bS ?_ Bf.out)|exact HB.out))))
 (case aL=>have:=LMc9.out;omega)
 intro v296 w18 ho hb hg hat
 rw [← Ny295.out] at ho
 have n0_:=Am (blk_grown (g:=Bc) (o:=.cells #[.slice A0_0 l0_0.length c0_0,.int .i64 a0_1] 25 (0,0)) (bL Ba.out) hg (Kd.R_ne Bj.out Ba.out (by decide)))
 have n1_:=Am (blk_grown (g:=Bd) (o:=.cells #[.slice none 0 0,.int .i64 0] 25 (0,0)) (bL Bb.out) hg (Kd.R_ne Bj.out Bb.out (by decide)))
 have n2_:=Am (hb)
 have n3_:=Am (ho)
 clear Ba
 clear Bb
 clear HB
 clear Bj
 have Ba:=n0_
 have Bb:=n1_
 have HB:=n2_
 have Bk:=n3_
 clear n0_ n1_ n2_ n3_
 clear ho hb hg hat
 obtain ⟨Ao19,co19,eo19⟩:=Kd.R_slice Bk.out
 (first|subst eo19|(injection eo19 with f1_ f2_ f3_;have f4_:=f1_.symm;have f5_:=f3_.symm;clear f1_ f2_ f3_;subst f4_;subst f5_))
 refine hK.out _ _ ⟨(bC Ba.out 0).trans rfl,(bC Ba.out 1).trans rfl⟩ (fun hHeld=>?_)
 clear hK K
 refine norm_ (by show Act.put _ (some 16) _=_;simp only [Act.put,lA,lZ,lS,iw,jw];rfl) ?_
 refine pS 12 17 z46q13 HT_ rfl rfl (by kernel_rfl) (by rfl) (by intro w';go_simp;with_reducible rfl) (by simp only [Act.put,lA,lZ,lS,iw,jw];rfl) ?_
 refine last_ (i:=13) (N:=none) z46q14 rfl rfl (one_of HT_.out (by kernel_rfl)) (by decide) (fun K hK=>?_)
 have hs20:=cz0 Ba.out
 have hfs20:=bF Ba.out 0
 have hns20_1:=Bg.out
 have hms20_1:=Bh.out
 refine skip_ (w1:=?_) (by rfl) rfl ?_ ?_
 rotate_left;(go_simp;rfl)
 refine hK.out _ _ ?_
 clear hK K
 refine done_ (done_of HT_.out (by kernel_rfl)) ?_
 have Bv:=Bh.out
 have Bw:=Bg.out
 have Bl:=cz0 Ba.out
 have Bm:=cz1 Ba.out
 have Bn:=bF Ba.out 0
 have Bo:=bF Ba.out 1
 have Bp:=cz0 Bb.out
 have Bq:=cz1 Bb.out
 have Br:=bF Bb.out 0
 have Bs:=bF Bb.out 1
 try go_wp2
 refine bodyPost_ret (results_cell_row rfl _ _ Bd 25 #[.slice Ao19 y295.length co19,.int .i64 a0_1] (0,0) _ rfl (by (with_reducible repeat (first|refine bN ?_ _|refine bD ?_|refine bA ?_ _));refine blk_put (cs:=#[.slice Ao19 y295.length co19,.int .i64 0]) ?_ 1 _ rfl;(with_reducible repeat (first|refine bN ?_ _|refine bD ?_|refine bA ?_ _));refine blk_put (cs:=#[.slice none 0 0,.int .i64 0]) ?_ 0 _ rfl;(with_reducible repeat (first|refine bN ?_ _|refine bD ?_|refine bA ?_ _|refine blk_far ?_ Bg.out _));exact Bb.out) Try.underlying25 rfl (by kernel_rfl)) rfl ?_
 exact ⟨_,by first|rfl|(simp [errW_none,errW_some] <;> rfl)|(simp only [← hji6];first|rfl|(simp [errW_none,errW_some] <;> rfl))|(simp [*,errW_none,errW_some] <;> rfl),by (with_reducible repeat (first|apply rA|apply rN|apply rD));exact rM (rF (p:=⟨Bd,1,none⟩) (rF (p:=⟨Bd,0,none⟩) (rF (p:=⟨Bc,0,none⟩) (rT (rT Bk.out Ba.out (by decide)) Bb.out (by decide)) (fun _ hk=>hk.1.2) (.slice Ao19 y295.length co19)) (fun _ hk=>hk.2) (.slice Ao19 y295.length co19)) (fun _ hk=>hk.2) (.int .i64 a0_1)) (fun _ hk=>trivial),by repeat (first|(with_reducible first|exact HB.out|apply oA|apply pN|apply o1|refine bS ?_ Be.out|refine bS ?_ Bf.out)|exact HB.out)⟩
end Go.Proofs.Ytfhcgmfodfcpeaa.PFnQueueLess
