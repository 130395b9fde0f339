/- Proved here, without a condition beyond those that each theorem states: what the Go functions named below do is what the plain functions of the same names say. Written by xprint.py, a program of this session. -/
import Derived.Test.YtpdfkbggaihfpaaPFnPagesSetx0
import Derived.Test.YtpdfkbggaihfpaaPFnPagesSetx1
import Derived.Test.YtpdfkbggaihfpaaPFnPagesSetx4
import Derived.Test.YtpdfkbggaihfpaaPFnPagesSetx5
namespace Go.Proofs.Ytpdfkbggaihfpaa.PFnPagesSet
open Go.RowKit Go.Proofs.YtpdfkbggaihfpaaW.PrintWords Go.Proofs.YtpdfkbggaihfpaaW.PrintLast Go.Proofs.YtpdfkbggaihfpaaW.PrintMore
attribute [local go_sem] max2_int min2_int max_two min_two max_three min_three max_four min_four   -- for this text's walks alone
set_option linter.unusedVariables false
set_option linter.unusedSimpArgs false

attribute [local go_sem ↓] isSome_setCell_
/-! ### spec_DrawPagesSet: function 16 -/
def spec_DrawPagesSet.f (k : Nat) (l0 : List Int) : Option (List ByteArray × List Int × Int × Int × Int) := (spec_l6Open.f l0).bind fun bt197 => ((spec_l91Pages.f k bt197.1 bt197.2).bind fun bt200 => ((spec_l91At.f k bt197.1 bt200.2.2).bind fun bt207 => ((spec_l6Rd_pick.f k bt197.1 bt207.2 6).bind fun bt209 => ((spec_l6Rd_pick.f k bt197.1 bt209.2 256).bind fun bt211 => ((some (([0, 255, bt211.1, 256, (-1)] : List Int) : List Int)).bind fun y213 => ((spec_l6Rd_pick.f k bt197.1 bt211.2 5).bind fun bt216 => (if 0 ≤ bt216.1 then (if bt216.1 < (y213.length : Int) then (some (bt200.1, bt200.2.1, bt207.1, wrap64 (bt209.1 - 1), rd y213 bt216.1)) else (none)) else (none))))))))
theorem spec_DrawPagesSet.mono : ∀ a0 k, LeO (spec_DrawPagesSet.f k a0) (spec_DrawPagesSet.f (k + 1) a0) := by
 intro a0 k
 unfold spec_DrawPagesSet.f
 repeat' first
  |(with_reducible exact spec_l6Rd_pick.mono _ _ _ _)
  |(with_reducible exact spec_l91At.mono _ _ _)
  |(with_reducible exact spec_l91Pages.mono _ _ _)
  |(with_reducible exact LeO.refl _)
  |(with_reducible exact LeO.none _)
  |(with_reducible refine LeO.ite ?_ ?_)
  |(with_reducible refine LeO.bind ?_ (fun _ => ?_))
  |exact spec_l6Rd_pick.mono _ _ _ _
  |exact spec_l91At.mono _ _ _
  |exact spec_l91Pages.mono _ _ _
  |exact LeO.none _
  |refine LeO.ite ?_ ?_
  |refine LeO.bind ?_ (fun _ => ?_)
def spec_DrawPagesSet.T2 : Bool × List (List Nat × List Nat) := (true, [([], []), ([0], [0]), ([], []), ([2, 1], [2]), ([], []), ([4, 3], [4]), ([5], [5]), ([], []), ([7, 5], [7]), ([8], [8]), ([], []), ([10, 8], [10]), ([9, 11], [9, 11]), ([12], [12]), ([1, 11, 0, 1], [1]), ([3, 14, 0, 1, 2, 3, 14], [3]), ([6, 15, 0, 1, 2, 3, 4, 5, 6, 14, 15], [6]), ([13, 16, 0, 1, 2, 3, 4, 5, 6, 7, 8, 9, 10, 11, 12, 13, 14, 15, 16], [13])])
def spec_DrawPagesSet.B2 : List Nat := [0, 1, 0, 7, 0, 31, 63, 0, 191, 447, 0, 1471, 4031, 8127, 3519, 19903, 52735, 131071]
theorem spec_DrawPagesSet.tab2 : rtab .any (opsOf Try.f16 2) = spec_DrawPagesSet.T2 := by kernel_rfl
theorem spec_DrawPagesSet.bits2 : waitsOk spec_DrawPagesSet.T2.2 spec_DrawPagesSet.B2 = true := by kernel_rfl
abbrev z16q0 : Array Bool := bQ 18 0
abbrev z16q1 : Array Bool := bQ 18 1
abbrev z16q2 : Array Bool := bQ 18 5
abbrev z16q3 : Array Bool := bQ 18 21
abbrev z16q4 : Array Bool := bQ 18 149
abbrev z16q5 : Array Bool := bQ 18 1173
set_option maxHeartbeats 2000000 in
set_option maxRecDepth 100000 in
theorem spec_DrawPagesSet.calls (k:Nat) (A0:Option Addr) (c0:Nat) (l0:List Int) (r1:List ByteArray) (r2:List Int) (r3:Int) (r4:Int) (r5:Int) (w:World) (hr0:Kd.C (Kd.int .u8) w A0 l0.length l0) (hc0:l0.length≤c0) (h:spec_DrawPagesSet.f k l0=some (r1,r2,r3,r4,r5)) :
  Calls Try.prog 16 #[.slice A0 l0.length c0] w fun e w'=>∃ v0_ v1_:Value,e=.returned (.tuple #[.agg #[v0_,v1_],.int .i64 r3,.int .i64 r4,.int .i64 r5])∧Kd.R Kd.string 9 w' w.heap.size (fun _=>True) v0_ r1∧Kd.R (Kd.int .i64) 3 w' w.heap.size (fun _=>True) v1_ r2∧Below w.heap.size w w':=by
 have hu26:=Try.underlying26
 have HR0:=Am hr0
 have HC0:=Am hc0
 clear hr0 hc0
 have HB:=Am (bJ w.heap.size w)
 have H:((spec_l6Open.f l0).bind fun bt197=>((spec_l91Pages.f k bt197.1 bt197.2).bind fun bt200=>((spec_l91At.f k bt197.1 bt200.2.2).bind fun bt207=>((spec_l6Rd_pick.f k bt197.1 bt207.2 6).bind fun bt209=>((spec_l6Rd_pick.f k bt197.1 bt209.2 256).bind fun bt211=>((some (([0,255,bt211.1,256,(-1)]:List Int):List Int)).bind fun y213=>((spec_l6Rd_pick.f k bt197.1 bt211.2 5).bind fun bt216=>(if 0≤bt216.1 then (if bt216.1<(y213.length:Int) then (some (bt200.1,bt200.2.1,bt207.1,wrap64 (bt209.1 - 1),rd y213 bt216.1)) else (none)) else (none)))))))))=some (r1,r2,r3,r4,r5):=h
 clear h
 replace H:=oC H
 obtain ⟨⟨t197,t198⟩,A20,H⟩:=H
 replace H:((spec_l91Pages.f k t197 t198).bind fun bt200=>((spec_l91At.f k t197 bt200.2.2).bind fun bt207=>((spec_l6Rd_pick.f k t197 bt207.2 6).bind fun bt209=>((spec_l6Rd_pick.f k t197 bt209.2 256).bind fun bt211=>((some (([0,255,bt211.1,256,(-1)]:List Int):List Int)).bind fun y213=>((spec_l6Rd_pick.f k t197 bt211.2 5).bind fun bt216=>(if 0≤bt216.1 then (if bt216.1<(y213.length:Int) then (some (bt200.1,bt200.2.1,bt207.1,wrap64 (bt209.1 - 1),rd y213 bt216.1)) else (none)) else (none))))))))=some (r1,r2,r3,r4,r5):=H
 have A2:=Am A20
 clear A20
 replace H:=oC H
 obtain ⟨⟨t200,t203,t206⟩,A30,H⟩:=H
 replace H:((spec_l91At.f k t197 t206).bind fun bt207=>((spec_l6Rd_pick.f k t197 bt207.2 6).bind fun bt209=>((spec_l6Rd_pick.f k t197 bt209.2 256).bind fun bt211=>((some (([0,255,bt211.1,256,(-1)]:List Int):List Int)).bind fun y213=>((spec_l6Rd_pick.f k t197 bt211.2 5).bind fun bt216=>(if 0≤bt216.1 then (if bt216.1<(y213.length:Int) then (some (t200,t203,bt207.1,wrap64 (bt209.1 - 1),rd y213 bt216.1)) else (none)) else (none)))))))=some (r1,r2,r3,r4,r5):=H
 have A3:=Am A30
 clear A30
 replace H:=oC H
 obtain ⟨⟨t207,t208⟩,A40,H⟩:=H
 replace H:((spec_l6Rd_pick.f k t197 t208 6).bind fun bt209=>((spec_l6Rd_pick.f k t197 bt209.2 256).bind fun bt211=>((some (([0,255,bt211.1,256,(-1)]:List Int):List Int)).bind fun y213=>((spec_l6Rd_pick.f k t197 bt211.2 5).bind fun bt216=>(if 0≤bt216.1 then (if bt216.1<(y213.length:Int) then (some (t200,t203,t207,wrap64 (bt209.1 - 1),rd y213 bt216.1)) else (none)) else (none))))))=some (r1,r2,r3,r4,r5):=H
 have A4:=Am A40
 clear A40
 replace H:=oC H
 obtain ⟨⟨t209,t210⟩,A50,H⟩:=H
 replace H:((spec_l6Rd_pick.f k t197 t210 256).bind fun bt211=>((some (([0,255,bt211.1,256,(-1)]:List Int):List Int)).bind fun y213=>((spec_l6Rd_pick.f k t197 bt211.2 5).bind fun bt216=>(if 0≤bt216.1 then (if bt216.1<(y213.length:Int) then (some (t200,t203,t207,wrap64 (t209 - 1),rd y213 bt216.1)) else (none)) else (none)))))=some (r1,r2,r3,r4,r5):=H
 have A5:=Am A50
 clear A50
 replace H:=oC H
 obtain ⟨⟨t211,t212⟩,A60,H⟩:=H
 replace H:((some (([0,255,t211,256,(-1)]:List Int):List Int)).bind fun y213=>((spec_l6Rd_pick.f k t197 t212 5).bind fun bt216=>(if 0≤bt216.1 then (if bt216.1<(y213.length:Int) then (some (t200,t203,t207,wrap64 (t209 - 1),rd y213 bt216.1)) else (none)) else (none))))=some (r1,r2,r3,r4,r5):=H
 have A6:=Am A60
 clear A60
 obtain ⟨y213,hy213⟩:∃ y_:List Int,y_=(([0,255,t211,256,(-1)]:List Int)):=⟨_,rfl⟩
 replace H:((spec_l6Rd_pick.f k t197 t212 5).bind fun bt216=>(if 0≤bt216.1 then (if bt216.1<(y213.length:Int) then (some (t200,t203,t207,wrap64 (t209 - 1),rd y213 bt216.1)) else (none)) else (none)))=some (r1,r2,r3,r4,r5):=by first|(rw [hy213];with_reducible exact H)|(have H2_:=(Option.bind_some _ _).symm.trans H;rw [hy213];with_reducible exact H2_)|(have H2_:=(Option.bind_some _ _).symm.trans H;with_reducible exact H2_)|with_reducible exact H|(rw [hy213];exact H)|exact H
 have Ny213:=Am hy213
 clear hy213
 replace H:=oC H
 obtain ⟨⟨t216,t217⟩,A70,H⟩:=H
 replace H:(if 0≤t216 then (if t216<(y213.length:Int) then (some (t200,t203,t207,wrap64 (t209 - 1),rd y213 t216)) else (none)) else (none))=some (r1,r2,r3,r4,r5):=H
 have A7:=Am A70
 clear A70
 by_cases c8:0≤t216
 rotate_left
 ·rw [if_neg c8] at H
  exact absurd H (by simp)

 rw [if_pos c8] at H
 have c8b0:decide (0≤t216)=true:=dT c8
 clear c8
 by_cases c9:t216<(y213.length:Int)
 rotate_left
 ·rw [if_neg c9] at H
  exact absurd H (by simp)
 rw [if_pos c9] at H
 have c9b0:decide (t216<(y213.length:Int))=true:=dT c9
 clear c9
 simp only [Option.some.injEq,Prod.mk.injEq] at H
 obtain ⟨rfl,rfl,rfl,rfl,rfl⟩:=H
 go_enter Try.func16,Try.ntmps16
 try go_wp2_with (first|((with_reducible refine gD (N:=2) rfl ?_);refine bI ?hg (N:=2) ?hd (cs:=#[.slice none 0 0,.slice none 0 0]) (t:=26) ?hr ?_;(case hd=>rfl);(case hg=>rfl);(case hr=>first|(go_simp;done)|(go_simp;rfl));intro Be hg w10 hbox hb;have n0_:=Am (bP (by repeat (first|(with_reducible first|exact HB.out|apply oA|apply pN|apply o1)|exact HB.out)) hb);have n1_:=Am (hbox);have n2_:=Am ((by rw [hg];exact (bZ (by repeat (first|(with_reducible first|exact HB.out|apply oA|apply pN|apply o1)|exact HB.out))):w.heap.size≤Be));have n3_:=Am ((by rw [hg];exact (bZ (by repeat (first|(with_reducible first|exact HB.out|apply oA|apply pN|apply o1)|exact HB.out))):w.heap.size≤Be));clear HB;revert n0_ n1_ n2_ n3_;intro HB Ba Bi Bf;clear hb hbox hg)|((with_reducible refine gC (f:=40) rfl ?_);refine goesL_ (some 8) rfl rfl Try.func40 (by kernel_rfl) rfl #[.slice A0 l0.length c0] rfl (by (try simp only [lM,lC,lN]);first|done|rfl|(simp only [lD,lT];rfl)) ?_;(with_reducible refine (spec_l6Open.calls _ _ l0 t197 t198 w _ ?side1 ?side2 ?side3 A2.out).mono ?_);(case side1=>repeat (first|(with_reducible first|exact HB.out|apply oA|apply pN|apply o1|refine bS ?_ Bf.out)|exact HB.out));(case side2=>exact HR0.out);(case side3=>exact HC0.out);rintro e w11 ⟨g199,rfl,hi,hb,hb2⟩;refine ⟨_,rfl,?_⟩;have n0_:=Am (bB (g:=Be) (o:=.cells #[.slice none 0 0,.slice none 0 0] 26 (0,0)) (bL Ba.out) hb2);have n1_:=Am (hb);have n2_:=Am (hi);have n3_:=Am (IsS83.ne_blk hi (bB (g:=Be) (o:=.cells #[.slice none 0 0,.slice none 0 0] 26 (0,0)) (bL Ba.out) hb2) (by decide));have n4_:=Am (Ne.symm (IsS83.ne_blk hi (bB (g:=Be) (o:=.cells #[.slice none 0 0,.slice none 0 0] 26 (0,0)) (bL Ba.out) hb2) (by decide)));clear Ba HB;revert n0_ n1_ n2_ n3_ n4_;intro Ba HB HI199 Bb Bg;(try clear hb);(try clear hb2);(try clear hk);(try clear hi)))
 have pi218:(0≤(t216:Int))=True:=eq_true (oE (by first|(with_reducible assumption)|assumption))
 have qi218:(t216<(y213.length:Int))=True:=eq_true (oE (by first|(with_reducible assumption)|assumption))
 have n0_:=Am (bD Ba.out)
 have n1_:=Am (IsS83.drew HI199.out)
 have n2_:=Am (o1 HB.out)
 clear Ba
 clear HI199
 clear HB
 have Ba:=n0_
 have HI199:=n1_
 have HB:=n2_
 clear n0_ n1_ n2_
 refine start_ (n:=18) (S:=fun w'=>True) (ds:=[]) z16q0 (by kernel_rfl) rfl rfl trivial (fun hHeld=>?_);refine with_st spec_DrawPagesSet.tab2 spec_DrawPagesSet.bits2 (fun _ _ _ _ _ h=>h) (fun HT_=>?_)
 generalize w11.drew=w12 at Ba HI199 HB hHeld ⊢
 refine pS 0 9 z16q1 HT_ rfl rfl (by kernel_rfl) (by rfl) (by intro w';go_simp;with_reducible rfl) (by simp only [Act.put,lA,lZ,lS,iw,jw];rfl) ?_
 refine pS 2 11 z16q2 HT_ rfl rfl (by kernel_rfl) (by rfl) (by intro w';go_simp;with_reducible rfl) (by simp only [Act.put,lA,lZ,lS,iw,jw];rfl) ?_
 refine pS 4 13 z16q3 HT_ rfl rfl (by kernel_rfl) (by rfl) (by intro w';go_simp;with_reducible rfl) (by simp only [Act.put,lA,lZ,lS,iw,jw];rfl) ?_
 refine pS 7 16 z16q4 HT_ rfl rfl (by kernel_rfl) (by rfl) (by intro w';go_simp;with_reducible rfl) (by simp only [Act.put,lA,lZ,lS,iw,jw];rfl) ?_
 refine pS 10 19 z16q5 HT_ rfl rfl (by kernel_rfl) (by rfl) (by intro w';go_simp;with_reducible rfl) (by simp only [Act.put,lA,lZ,lS,iw,jw];rfl) ?_
 refine inv_at [1,3,5,6,8,9,11,12,13,14,15,16,17] (fun a0_ b a w'=>∃ (v201:Value) (v204:Value) (v214:Value) (adz_v214:Addr) (m1_:Value) (m12_:Value),a=putSel a0_ b [(1,10,m1_),(3,12,.int .i64 t207),(5,14,.int .i64 t209),(6,15,.int .i64 (wrap64 (t209 - 1))),(8,17,.int .i64 t211),(9,18,v214),(11,20,.int .i64 t216),(12,21,m12_),(13,22,.int .i64 (rd y213 t216)),(15,3,.int .i64 t207),(16,4,.int .i64 (wrap64 (t209 - 1))),(17,5,.int .i64 (rd y213 t216))]∧(b 14=false → w'.heap[Be]?=some (.cells #[.slice none 0 0,.slice none 0 0] 26 (0,0)))∧(b 1=false → IsS83 w w' g199 t197 t198)∧(Below w.heap.size w w')∧(b 1=true → Kd.R Kd.string 9 w' w.heap.size (fun _=>True) v201 t200)∧(b 1=true → Kd.R (Kd.int .i64) 3 w' w.heap.size (fun _=>True) v204 t203)∧(b 1=true → b 3=false → IsS83 w w' g199 t197 t206)∧(b 3=true → b 5=false → IsS83 w w' g199 t197 t208)∧(b 5=true → b 8=false → IsS83 w w' g199 t197 t210)∧(b 8=true → b 11=false → IsS83 w w' g199 t197 t212)∧(b 9=true → Kd.R (Kd.int .i64) 3 w' w.heap.size (fun _=>True) v214 y213)∧(b 9=true → ∃ c_,(v214:Value)=.slice (some adz_v214) y213.length c_)∧(b 11=true → IsS83 w w' g199 t197 t217)∧(b 14=true → w'.heap[Be]?=some (.cells #[v201,v204] 26 (0,0)))∧(b 1=true → (m1_:Value)=.agg #[v201,v204])∧(b 12=true → (m12_:Value)=.pointer (some (adz_v214.add (t216).toNat)))) HT_.out HT_.b (by kernel_rfl) (by kernel_rfl) ?_ ?_ ?_
 ·exact ⟨.bool false,.bool false,.bool false,⟨0,0,none⟩,.bool false,.bool false,by simp only [putSel,Bool.false_eq_true,if_false],fun _=>Ba.out,fun _=>HI199.out,HB.out,fun h_=>absurd h_ (by decide),fun h_=>absurd h_ (by decide),fun h_=>absurd h_ (by decide),fun h_=>absurd h_ (by decide),fun h_=>absurd h_ (by decide),fun h_=>absurd h_ (by decide),fun h_=>absurd h_ (by decide),fun h_=>absurd h_ (by decide),fun h_=>absurd h_ (by decide),fun h_=>absurd h_ (by decide),fun h_=>absurd h_ (by decide),fun h_=>absurd h_ (by decide)⟩
 ·skip
  clear Ba HB HI199
  refine steps_cons ?_ ?_
  ·rintro b a w' ⟨v201,v204,v214,adz_v214,m1_,m12_,ha,Q_BK196,Q_HI199,Q_HB,Q_HO202,Q_HO205,Q_HI199_e1,Q_HI199_e3,Q_HI199_e5,Q_HI199_e8,Q_HO215,Q_HA_HO215,Q_HI199_e11,Q_BK196_e14,Q_X1_,Q_X12_⟩ hb_ hon hoff
   refine ⟨_,rfl,fun K hK=>?_⟩
   have e9:a.tmps[9]?=some (.pointer (some ⟨g199,0,none⟩)):=by rw [ha];exact (putSel_off rfl).trans rfl
   replace ha:=Am ha
   have Ba:=Am (Q_BK196 (hoff 14 (by kernel_rfl)))
   have HI199:=Am (Q_HI199 hb_)
   have HB:=Am Q_HB
   refine goes_ Try.func41 (by kernel_rfl) rfl #[.pointer (some ⟨g199,0,none⟩)] (by rfl) rfl rfl (by first|(simp only [lM,lC,lN,Act.eval,Array.getD_eq_getD_getElem?,Option.getD_some,e9];done)|(simp only [lM,lC,lN,Act.eval,Array.getD_eq_getD_getElem?,Option.getD_some,e9];rfl)) ?_
   with_reducible refine (spec_l91Pages.calls k g199 t197 t198 t200 t203 t206 w _ ?side1 ?side2 A3.out).mono ?_
   (case side1=>repeat (first|(with_reducible first|exact HI199.out|apply IsS83.alloc|apply IsS83.drewN|apply IsS83.drew|apply IsS83.set_1|refine IsS83.far ?_ Bb.out _)|exact HI199.out))
   (case side2=>repeat (first|(with_reducible first|exact HB.out|apply oA|apply pN|apply o1|refine bS ?_ (IsS83.ge HI199.out)|refine bS ?_ Bf.out)|exact HB.out))
   rintro e w13 ⟨v201,v204,rfl,ho0,ho1,hi,hb,hk⟩
   refine ⟨_,rfl,?_⟩
   have n0_:=Am (KeepBut.blk hk (g':=Be) (o:=.cells #[.slice none 0 0,.slice none 0 0] 26 (0,0)) (bL Ba.out) Bg.out (by simp))
   have n1_:=Am (rW ho0 (bZ (by repeat (first|(with_reducible first|exact HB.out|apply oA|apply pN|apply o1|refine bS ?_ (IsS83.ge HI199.out)|refine bS ?_ Bf.out)|exact HB.out))))
   have n2_:=Am (rW ho1 (bZ (by repeat (first|(with_reducible first|exact HB.out|apply oA|apply pN|apply o1|refine bS ?_ (IsS83.ge HI199.out)|refine bS ?_ Bf.out)|exact HB.out))))
   have n3_:=Am (hb)
   have n4_:=Am (hi)
   clear Ba
   clear HB
   clear HI199
   have Ba:=n0_
   have Bd:=n1_
   have Bc:=n2_
   have HB:=n3_
   have HI199:=n4_
   clear n0_ n1_ n2_ n3_ n4_
   (try clear hb)
   (try clear hb2)
   (try clear hk)
   (try clear hi)
   (try clear ho0)
   (try clear ho1)
   refine hK.out _ _ ⟨v201,v204,v214,adz_v214,(.agg #[v201,v204]),m12_,(by rw [ha.out];exact putSel_upk 0 hb_ rfl rfl rfl),fun _=>(bL Ba.out),fun h0_=>absurd ((up_self b 1).symm.trans h0_) (by decide),(by repeat (first|(with_reducible first|exact HB.out|apply oA|apply pN|apply o1|refine bS ?_ (IsS83.ge HI199.out)|refine bS ?_ Bf.out)|exact HB.out)),fun _=>(rL Bd.out),fun _=>(rL Bc.out),fun _ _=>(by repeat (first|(with_reducible first|exact HI199.out|apply IsS83.alloc|apply IsS83.drewN|apply IsS83.drew|apply IsS83.set_1|refine IsS83.far ?_ Bb.out _)|exact HI199.out)),fun h0_ _=>absurd ((hoff 3 (by kernel_rfl)).symm.trans h0_) (by decide),fun h0_ _=>absurd ((hoff 5 (by kernel_rfl)).symm.trans h0_) (by decide),fun h0_ _=>absurd ((hoff 8 (by kernel_rfl)).symm.trans h0_) (by decide),fun h0_=>absurd ((hoff 9 (by kernel_rfl)).symm.trans h0_) (by decide),fun h0_=>absurd ((hoff 9 (by kernel_rfl)).symm.trans h0_) (by decide),fun h0_=>absurd ((hoff 11 (by kernel_rfl)).symm.trans h0_) (by decide),fun h0_=>absurd ((hoff 14 (by kernel_rfl)).symm.trans h0_) (by decide),fun _=>rfl,fun h0_=>absurd ((hoff 12 (by kernel_rfl)).symm.trans h0_) (by decide)⟩
  refine steps_cons ?_ ?_
  ·rintro b a w' ⟨v201,v204,v214,adz_v214,m1_,m12_,ha,Q_BK196,Q_HI199,Q_HB,Q_HO202,Q_HO205,Q_HI199_e1,Q_HI199_e3,Q_HI199_e5,Q_HI199_e8,Q_HO215,Q_HA_HO215,Q_HI199_e11,Q_BK196_e14,Q_X1_,Q_X12_⟩ hb_ hon hoff
   refine ⟨_,rfl,fun K hK=>?_⟩
   have e11:a.tmps[11]?=some (.pointer (some ⟨g199,0,none⟩)):=by rw [ha];exact (putSel_off rfl).trans rfl
   replace ha:=Am ha
   have Ba:=Am (Q_BK196 (hoff 14 (by kernel_rfl)))
   have HB:=Am Q_HB
   have Bd:=Am (Q_HO202 (hon 1 (by kernel_rfl)))
   have Bc:=Am (Q_HO205 (hon 1 (by kernel_rfl)))
   have HI199:=Am (Q_HI199_e1 (hon 1 (by kernel_rfl)) hb_)
   refine goes_ Try.func46 (by kernel_rfl) rfl #[.pointer (some ⟨g199,0,none⟩)] (by rfl) rfl rfl (by first|(simp only [lM,lC,lN,Act.eval,Array.getD_eq_getD_getElem?,Option.getD_some,e11];done)|(simp only [lM,lC,lN,Act.eval,Array.getD_eq_getD_getElem?,Option.getD_some,e11];rfl)) ?_
   with_reducible refine (spec_l91At.calls k g199 t197 t206 t207 t208 w _ ?side1 ?side2 A4.out).mono ?_
   (case side1=>repeat (first|(with_reducible first|exact HI199.out|apply IsS83.alloc|apply IsS83.drewN|apply IsS83.drew|apply IsS83.set_1|refine IsS83.far ?_ Bb.out _)|exact HI199.out))
   (case side2=>repeat (first|(with_reducible first|exact HB.out|apply oA|apply pN|apply o1|refine bS ?_ (IsS83.ge HI199.out)|refine bS ?_ Bf.out)|exact HB.out))
   rintro e w15 ⟨rfl,hi,hb,hk⟩
   refine ⟨_,rfl,?_⟩
   have n0_:=Am (KeepBut.blk hk (g':=Be) (o:=.cells #[.slice none 0 0,.slice none 0 0] 26 (0,0)) (bL Ba.out) Bg.out (by simp))
   have n1_:=Am (rM (Kd.R_keep (IsS83.apart (show IsS83 w _ g199 t197 t206 from by repeat (first|(with_reducible first|exact HI199.out|apply IsS83.alloc|apply IsS83.drewN|apply IsS83.drew|apply IsS83.set_1|refine IsS83.far ?_ Bb.out _)|exact HI199.out)) (rL Bd.out) (by decide)) hk (fun _ h=>h.2)) (fun _ h=>h.1))
   have n2_:=Am (rM (Kd.R_keep (IsS83.apart (show IsS83 w _ g199 t197 t206 from by repeat (first|(with_reducible first|exact HI199.out|apply IsS83.alloc|apply IsS83.drewN|apply IsS83.drew|apply IsS83.set_1|refine IsS83.far ?_ Bb.out _)|exact HI199.out)) (rL Bc.out) (by decide)) hk (fun _ h=>h.2)) (fun _ h=>h.1))
   have n3_:=Am (hb)
   have n4_:=Am (hi)
   clear Ba
   clear Bd
   clear Bc
   clear HB
   clear HI199
   have Ba:=n0_
   have Bd:=n1_
   have Bc:=n2_
   have HB:=n3_
   have HI199:=n4_
   clear n0_ n1_ n2_ n3_ n4_
   (try clear hb)
   (try clear hb2)
   (try clear hk)
   (try clear hi)
   refine hK.out _ _ ⟨v201,v204,v214,adz_v214,m1_,m12_,(by rw [ha.out];exact putSel_upk 1 hb_ rfl rfl rfl),fun _=>(bL Ba.out),fun h0_=>absurd ((hon 1 (by kernel_rfl)).symm.trans h0_) (by decide),(by repeat (first|(with_reducible first|exact HB.out|apply oA|apply pN|apply o1|refine bS ?_ (IsS83.ge HI199.out)|refine bS ?_ Bf.out)|exact HB.out)),fun _=>(rL Bd.out),fun _=>(rL Bc.out),fun _ h1_=>absurd ((up_self b 3).symm.trans h1_) (by decide),fun _ _=>(by repeat (first|(with_reducible first|exact HI199.out|apply IsS83.alloc|apply IsS83.drewN|apply IsS83.drew|apply IsS83.set_1|refine IsS83.far ?_ Bb.out _)|exact HI199.out)),fun h0_ _=>absurd ((hoff 5 (by kernel_rfl)).symm.trans h0_) (by decide),fun h0_ _=>absurd ((hoff 8 (by kernel_rfl)).symm.trans h0_) (by decide),fun h0_=>absurd ((hoff 9 (by kernel_rfl)).symm.trans h0_) (by decide),fun h0_=>absurd ((hoff 9 (by kernel_rfl)).symm.trans h0_) (by decide),fun h0_=>absurd ((hoff 11 (by kernel_rfl)).symm.trans h0_) (by decide),fun h0_=>absurd ((hoff 14 (by kernel_rfl)).symm.trans h0_) (by decide),Q_X1_,fun h0_=>absurd ((hoff 12 (by kernel_rfl)).symm.trans h0_) (by decide)⟩
  refine steps_cons ?_ ?_
  ·rintro b a w' ⟨v201,v204,v214,adz_v214,m1_,m12_,ha,Q_BK196,Q_HI199,Q_HB,Q_HO202,Q_HO205,Q_HI199_e1,Q_HI199_e3,Q_HI199_e5,Q_HI199_e8,Q_HO215,Q_HA_HO215,Q_HI199_e11,Q_BK196_e14,Q_X1_,Q_X12_⟩ hb_ hon hoff
   refine ⟨_,rfl,fun K hK=>?_⟩
   have e13:a.tmps[13]?=some (.pointer (some ⟨g199,0,none⟩)):=by rw [ha];exact (putSel_off rfl).trans rfl
   replace ha:=Am ha
   have Ba:=Am (Q_BK196 (hoff 14 (by kernel_rfl)))
   have HB:=Am Q_HB
   have Bd:=Am (Q_HO202 (hon 1 (by kernel_rfl)))
   have Bc:=Am (Q_HO205 (hon 1 (by kernel_rfl)))
   have HI199:=Am (Q_HI199_e3 (hon 3 (by kernel_rfl)) hb_)
   refine goes_ Try.func47 (by kernel_rfl) rfl #[.pointer (some ⟨g199,0,none⟩),.int .i64 6] (by rfl) rfl rfl (by first|(simp only [lM,lC,lN,Act.eval,Array.getD_eq_getD_getElem?,Option.getD_some,e13];done)|(simp only [lM,lC,lN,Act.eval,Array.getD_eq_getD_getElem?,Option.getD_some,e13];rfl)) ?_
   with_reducible refine (spec_l6Rd_pick.calls k g199 t197 t208 6 t209 t210 w _ ?side1 ?side2 A5.out).mono ?_
   (case side1=>repeat (first|(with_reducible first|exact HI199.out|apply IsS83.alloc|apply IsS83.drewN|apply IsS83.drew|apply IsS83.set_1|refine IsS83.far ?_ Bb.out _)|exact HI199.out))
   (case side2=>repeat (first|(with_reducible first|exact HB.out|apply oA|apply pN|apply o1|refine bS ?_ (IsS83.ge HI199.out)|refine bS ?_ Bf.out)|exact HB.out))
   rintro e w16 ⟨rfl,hi,hb,hk⟩
   refine ⟨_,rfl,?_⟩
   have n0_:=Am (KeepBut.blk hk (g':=Be) (o:=.cells #[.slice none 0 0,.slice none 0 0] 26 (0,0)) (bL Ba.out) Bg.out (by simp))
   have n1_:=Am (rM (Kd.R_keep (IsS83.apart (show IsS83 w _ g199 t197 t208 from by repeat (first|(with_reducible first|exact HI199.out|apply IsS83.alloc|apply IsS83.drewN|apply IsS83.drew|apply IsS83.set_1|refine IsS83.far ?_ Bb.out _)|exact HI199.out)) (rL Bd.out) (by decide)) hk (fun _ h=>h.2)) (fun _ h=>h.1))
   have n2_:=Am (rM (Kd.R_keep (IsS83.apart (show IsS83 w _ g199 t197 t208 from by repeat (first|(with_reducible first|exact HI199.out|apply IsS83.alloc|apply IsS83.drewN|apply IsS83.drew|apply IsS83.set_1|refine IsS83.far ?_ Bb.out _)|exact HI199.out)) (rL Bc.out) (by decide)) hk (fun _ h=>h.2)) (fun _ h=>h.1))
   have n3_:=Am (hb)
   have n4_:=Am (hi)
   clear Ba
   clear Bd
   clear Bc
   clear HB
   clear HI199
   have Ba:=n0_
   have Bd:=n1_
   have Bc:=n2_
   have HB:=n3_
   have HI199:=n4_
   clear n0_ n1_ n2_ n3_ n4_
   (try clear hb)
   (try clear hb2)
   (try clear hk)
   (try clear hi)
   refine hK.out _ _ ⟨v201,v204,v214,adz_v214,m1_,m12_,(by rw [ha.out];exact putSel_upk 2 hb_ rfl rfl rfl),fun _=>(bL Ba.out),fun h0_=>absurd ((hon 1 (by kernel_rfl)).symm.trans h0_) (by decide),(by repeat (first|(with_reducible first|exact HB.out|apply oA|apply pN|apply o1|refine bS ?_ (IsS83.ge HI199.out)|refine bS ?_ Bf.out)|exact HB.out)),fun _=>(rL Bd.out),fun _=>(rL Bc.out),fun _ h1_=>absurd ((hon 3 (by kernel_rfl)).symm.trans h1_) (by decide),fun _ h1_=>absurd ((up_self b 5).symm.trans h1_) (by decide),fun _ _=>(by repeat (first|(with_reducible first|exact HI199.out|apply IsS83.alloc|apply IsS83.drewN|apply IsS83.drew|apply IsS83.set_1|refine IsS83.far ?_ Bb.out _)|exact HI199.out)),fun h0_ _=>absurd ((hoff 8 (by kernel_rfl)).symm.trans h0_) (by decide),fun h0_=>absurd ((hoff 9 (by kernel_rfl)).symm.trans h0_) (by decide),fun h0_=>absurd ((hoff 9 (by kernel_rfl)).symm.trans h0_) (by decide),fun h0_=>absurd ((hoff 11 (by kernel_rfl)).symm.trans h0_) (by decide),fun h0_=>absurd ((hoff 14 (by kernel_rfl)).symm.trans h0_) (by decide),Q_X1_,fun h0_=>absurd ((hoff 12 (by kernel_rfl)).symm.trans h0_) (by decide)⟩
  refine steps_cons ?_ ?_
  ·rintro b a w' ⟨v201,v204,v214,adz_v214,m1_,m12_,ha,Q_BK196,Q_HI199,Q_HB,Q_HO202,Q_HO205,Q_HI199_e1,Q_HI199_e3,Q_HI199_e5,Q_HI199_e8,Q_HO215,Q_HA_HO215,Q_HI199_e11,Q_BK196_e14,Q_X1_,Q_X12_⟩ hb_ hon hoff
   refine ⟨_,rfl,fun K hK=>?_⟩
   have e14:a.tmps[14]?=some (.int .i64 t209):=by rw [ha];exact putSel_on (e:=(5,14,.int .i64 t209)) 2 rfl rfl (hon 5 (by kernel_rfl)) rfl
   replace ha:=Am ha
   have HB:=Am Q_HB
   have Bd:=Am (Q_HO202 (hon 1 (by kernel_rfl)))
   have Bc:=Am (Q_HO205 (hon 1 (by kernel_rfl)))
   refine value_ (w1:=w') (v:=.int .i64 (wrap64 (t209 - 1))) (by rfl) rfl ?_ ?_
   ·go_simp
    (try simp only [i64_w])
    try rfl
   refine hK.out _ _ ⟨v201,v204,v214,adz_v214,m1_,m12_,(by rw [ha.out];exact putSel_upk 3 hb_ rfl rfl rfl),Q_BK196,fun h0_=>absurd ((hon 1 (by kernel_rfl)).symm.trans h0_) (by decide),Q_HB,Q_HO202,Q_HO205,fun _ h1_=>absurd ((hon 3 (by kernel_rfl)).symm.trans h1_) (by decide),fun _ h1_=>absurd ((hon 5 (by kernel_rfl)).symm.trans h1_) (by decide),Q_HI199_e5,Q_HI199_e8,Q_HO215,Q_HA_HO215,Q_HI199_e11,Q_BK196_e14,Q_X1_,Q_X12_⟩
  refine steps_cons ?_ ?_
  ·rintro b a w' ⟨v201,v204,v214,adz_v214,m1_,m12_,ha,Q_BK196,Q_HI199,Q_HB,Q_HO202,Q_HO205,Q_HI199_e1,Q_HI199_e3,Q_HI199_e5,Q_HI199_e8,Q_HO215,Q_HA_HO215,Q_HI199_e11,Q_BK196_e14,Q_X1_,Q_X12_⟩ hb_ hon hoff
   refine ⟨_,rfl,fun K hK=>?_⟩
   have e16:a.tmps[16]?=some (.pointer (some ⟨g199,0,none⟩)):=by rw [ha];exact (putSel_off rfl).trans rfl
   replace ha:=Am ha
   have Ba:=Am (Q_BK196 (hoff 14 (by kernel_rfl)))
   have HB:=Am Q_HB
   have Bd:=Am (Q_HO202 (hon 1 (by kernel_rfl)))
   have Bc:=Am (Q_HO205 (hon 1 (by kernel_rfl)))
   have HI199:=Am (Q_HI199_e5 (hon 5 (by kernel_rfl)) hb_)
   refine goes_ Try.func47 (by kernel_rfl) rfl #[.pointer (some ⟨g199,0,none⟩),.int .i64 256] (by rfl) rfl rfl (by first|(simp only [lM,lC,lN,Act.eval,Array.getD_eq_getD_getElem?,Option.getD_some,e16];done)|(simp only [lM,lC,lN,Act.eval,Array.getD_eq_getD_getElem?,Option.getD_some,e16];rfl)) ?_
   with_reducible refine (spec_l6Rd_pick.calls k g199 t197 t210 256 t211 t212 w _ ?side1 ?side2 A6.out).mono ?_
   (case side1=>repeat (first|(with_reducible first|exact HI199.out|apply IsS83.alloc|apply IsS83.drewN|apply IsS83.drew|apply IsS83.set_1|refine IsS83.far ?_ Bb.out _)|exact HI199.out))
   (case side2=>repeat (first|(with_reducible first|exact HB.out|apply oA|apply pN|apply o1|refine bS ?_ (IsS83.ge HI199.out)|refine bS ?_ Bf.out)|exact HB.out))
   rintro e w17 ⟨rfl,hi,hb,hk⟩
   refine ⟨_,rfl,?_⟩
   have n0_:=Am (KeepBut.blk hk (g':=Be) (o:=.cells #[.slice none 0 0,.slice none 0 0] 26 (0,0)) (bL Ba.out) Bg.out (by simp))
   have n1_:=Am (rM (Kd.R_keep (IsS83.apart (show IsS83 w _ g199 t197 t210 from by repeat (first|(with_reducible first|exact HI199.out|apply IsS83.alloc|apply IsS83.drewN|apply IsS83.drew|apply IsS83.set_1|refine IsS83.far ?_ Bb.out _)|exact HI199.out)) (rL Bd.out) (by decide)) hk (fun _ h=>h.2)) (fun _ h=>h.1))
   have n2_:=Am (rM (Kd.R_keep (IsS83.apart (show IsS83 w _ g199 t197 t210 from by repeat (first|(with_reducible first|exact HI199.out|apply IsS83.alloc|apply IsS83.drewN|apply IsS83.drew|apply IsS83.set_1|refine IsS83.far ?_ Bb.out _)|exact HI199.out)) (rL Bc.out) (by decide)) hk (fun _ h=>h.2)) (fun _ h=>h.1))
   have n3_:=Am (hb)
   have n4_:=Am (hi)
   clear Ba
   clear Bd
   clear Bc
   clear HB
   clear HI199
   have Ba:=n0_
   have Bd:=n1_
   have Bc:=n2_
   have HB:=n3_
   have HI199:=n4_
   clear n0_ n1_ n2_ n3_ n4_
   (try clear hb)
   (try clear hb2)
   (try clear hk)
   (try clear hi)
   refine hK.out _ _ ⟨v201,v204,v214,adz_v214,m1_,m12_,(by rw [ha.out];exact putSel_upk 4 hb_ rfl rfl rfl),fun _=>(bL Ba.out),fun h0_=>absurd ((hon 1 (by kernel_rfl)).symm.trans h0_) (by decide),(by repeat (first|(with_reducible first|exact HB.out|apply oA|apply pN|apply o1|refine bS ?_ (IsS83.ge HI199.out)|refine bS ?_ Bf.out)|exact HB.out)),fun _=>(rL Bd.out),fun _=>(rL Bc.out),fun _ h1_=>absurd ((hon 3 (by kernel_rfl)).symm.trans h1_) (by decide),fun _ h1_=>absurd ((hon 5 (by kernel_rfl)).symm.trans h1_) (by decide),fun _ h1_=>absurd ((up_self b 8).symm.trans h1_) (by decide),fun _ _=>(by repeat (first|(with_reducible first|exact HI199.out|apply IsS83.alloc|apply IsS83.drewN|apply IsS83.drew|apply IsS83.set_1|refine IsS83.far ?_ Bb.out _)|exact HI199.out)),fun h0_=>absurd ((hoff 9 (by kernel_rfl)).symm.trans h0_) (by decide),fun h0_=>absurd ((hoff 9 (by kernel_rfl)).symm.trans h0_) (by decide),fun h0_=>absurd ((hoff 11 (by kernel_rfl)).symm.trans h0_) (by decide),fun h0_=>absurd ((hoff 14 (by kernel_rfl)).symm.trans h0_) (by decide),Q_X1_,fun h0_=>absurd ((hoff 12 (by kernel_rfl)).symm.trans h0_) (by decide)⟩
  refine steps_cons ?_ ?_
  ·rintro b a w' ⟨v201,v204,v214,adz_v214,m1_,m12_,ha,Q_BK196,Q_HI199,Q_HB,Q_HO202,Q_HO205,Q_HI199_e1,Q_HI199_e3,Q_HI199_e5,Q_HI199_e8,Q_HO215,Q_HA_HO215,Q_HI199_e11,Q_BK196_e14,Q_X1_,Q_X12_⟩ hb_ hon hoff
   refine ⟨_,rfl,fun K hK=>?_⟩
   have e17:a.tmps[17]?=some (.int .i64 t211):=by rw [ha];exact putSel_on (e:=(8,17,.int .i64 t211)) 4 rfl rfl (hon 8 (by kernel_rfl)) rfl
   replace ha:=Am ha
   have HB:=Am Q_HB
   have Bd:=Am (Q_HO202 (hon 1 (by kernel_rfl)))
   have Bc:=Am (Q_HO205 (hon 1 (by kernel_rfl)))
   refine Kd.R_lit_step (Kd.int .i64) _ 3 ?hg (N:=18) ?hd (xs:=([0,255,t211,256,(-1)]:List Int)) (inner:=[.int .i64 0,.int .i64 255,.int .i64 t211,.int .i64 256,.int .i64 (-1)]) (ok:=fun _=>True) (okp:=fun _=>True) ?hr ?hp (fun _ hk=>hk) trivial (bJ _ _) (nR _) (by simp) ?_;(case hd=>rfl);(case hg=>rfl);(case hr=>first|(go_simp;done)|(go_simp;rfl));(case hp=>exact (Reps.one (show Kd.M (Kd.int .i64) _ _ _ 0 [.int .i64 0] from rfl) (Reps.one (show Kd.M (Kd.int .i64) _ _ _ 255 [.int .i64 255] from rfl) (Reps.one (show Kd.M (Kd.int .i64) _ _ _ t211 [.int .i64 t211] from rfl) (Reps.one (show Kd.M (Kd.int .i64) _ _ _ 256 [.int .i64 256] from rfl) (Reps.one (show Kd.M (Kd.int .i64) _ _ _ (-1) [.int .i64 (-1)] from rfl) (Reps.none _ _)))))))
   intro v214 w18 ho19 hb hg_ hnew_
   clear hg_ hnew_
   (first|rw [← Ny213.out] at ho19|(simp only [Int.reduceToNat] at ho19;rw [← Ny213.out] at ho19))
   have n0_:=Am (rB (rL Bd.out) hb)
   have n1_:=Am (rX (rL Bc.out) (rZ ho19) hb)
   have n2_:=Am (rW (rQ ho19 (rI (rL Bc.out))) (bZ (by repeat (first|(with_reducible first|exact HB.out|apply oA|apply pN|apply o1|refine bS ?_ Bf.out)|exact HB.out))))
   have n5_:=Am (bP (by repeat (first|(with_reducible first|exact HB.out|apply oA|apply pN|apply o1|refine bS ?_ Bf.out)|exact HB.out)) hb)
   have z_BK196:=fun (h0_:b 14=false)=>(show w18.heap[Be]?=some (.cells #[.slice none 0 0,.slice none 0 0] 26 (0,0)) from by first|exact (bB (g:=Be) (o:=.cells #[.slice none 0 0,.slice none 0 0] 26 (0,0)) (by (with_reducible repeat (first|refine bN ?_ _|refine bD ?_|refine bA ?_ _));exact (Q_BK196 h0_)) hb))
   have z_HI199_e8:=fun (h0_:b 8=true) (h1_:b 11=false)=>(show IsS83 w w18 g199 t197 t212 from by first|exact (IsS83.below (by repeat (first|(with_reducible first|exact (Q_HI199_e8 h0_ h1_)|apply IsS83.alloc|apply IsS83.drewN|apply IsS83.drew|apply IsS83.set_1|refine IsS83.far ?_ Bb.out _)|exact (Q_HI199_e8 h0_ h1_))) hb))
   have z_HI199_e11:=fun (h0_:b 11=true)=>(show IsS83 w w18 g199 t197 t217 from by first|exact (IsS83.below (by repeat (first|(with_reducible first|exact (Q_HI199_e11 h0_)|apply IsS83.alloc|apply IsS83.drewN|apply IsS83.drew|apply IsS83.set_1|refine IsS83.far ?_ Bb.out _)|exact (Q_HI199_e11 h0_))) hb))
   have z_BK196_e14:=fun (h0_:b 14=true)=>(show w18.heap[Be]?=some (.cells #[v201,v204] 26 (0,0)) from by first|exact (bB (g:=Be) (o:=.cells #[v201,v204] 26 (0,0)) (by (with_reducible repeat (first|refine bN ?_ _|refine bD ?_|refine bA ?_ _));exact (Q_BK196_e14 h0_)) hb))
   clear Bd
   clear Bc
   clear HB
   have Bd:=n0_
   have Bc:=n1_
   have Bh:=n2_
   have HB:=n5_
   clear n0_ n1_ n2_ n5_
   clear hb ho19
   obtain ⟨Ao20,co20,eo20⟩:=rC Bh.out
   subst eo20
   obtain ⟨ado20,fo20,_⟩:=Kd.at_int (rR Bh.out).2.2 0 (by decide) (by rw [Ny213.out];simp)
   cases fo20
   refine hK.out _ _ ⟨v201,v204,.slice (some ado20) y213.length co20,ado20,m1_,m12_,(by rw [ha.out];exact putSel_upk 5 hb_ rfl rfl rfl),z_BK196,fun h0_=>absurd ((hon 1 (by kernel_rfl)).symm.trans h0_) (by decide),(by repeat (first|(with_reducible first|exact HB.out|apply oA|apply pN|apply o1|refine bS ?_ Bf.out)|exact HB.out)),fun _=>(rL Bd.out),fun _=>(by (with_reducible repeat (first|apply rA|apply rN|apply rD));exact rM Bc.out (fun _ hk=>by first|exact hk.2|trivial)),fun _ h1_=>absurd ((hon 3 (by kernel_rfl)).symm.trans h1_) (by decide),fun _ h1_=>absurd ((hon 5 (by kernel_rfl)).symm.trans h1_) (by decide),fun _ h1_=>absurd ((hon 8 (by kernel_rfl)).symm.trans h1_) (by decide),z_HI199_e8,fun _=>(by (with_reducible repeat (first|apply rA|apply rN|apply rD));exact rM Bh.out (fun _ hk=>by first|exact hk.2|trivial)),fun _=>⟨_,rfl⟩,z_HI199_e11,z_BK196_e14,Q_X1_,fun h0_=>absurd ((hoff 12 (by kernel_rfl)).symm.trans h0_) (by decide)⟩
  refine steps_cons ?_ ?_
  ·rintro b a w' ⟨v201,v204,v214,adz_v214,m1_,m12_,ha,Q_BK196,Q_HI199,Q_HB,Q_HO202,Q_HO205,Q_HI199_e1,Q_HI199_e3,Q_HI199_e5,Q_HI199_e8,Q_HO215,Q_HA_HO215,Q_HI199_e11,Q_BK196_e14,Q_X1_,Q_X12_⟩ hb_ hon hoff
   refine ⟨_,rfl,fun K hK=>?_⟩
   have e19:a.tmps[19]?=some (.pointer (some ⟨g199,0,none⟩)):=by rw [ha];exact (putSel_off rfl).trans rfl
   replace ha:=Am ha
   have Ba:=Am (Q_BK196 (hoff 14 (by kernel_rfl)))
   have HB:=Am Q_HB
   have Bd:=Am (Q_HO202 (hon 1 (by kernel_rfl)))
   have Bc:=Am (Q_HO205 (hon 1 (by kernel_rfl)))
   have HI199:=Am (Q_HI199_e8 (hon 8 (by kernel_rfl)) hb_)
   refine goes_ Try.func47 (by kernel_rfl) rfl #[.pointer (some ⟨g199,0,none⟩),.int .i64 5] (by rfl) rfl rfl (by first|(simp only [lM,lC,lN,Act.eval,Array.getD_eq_getD_getElem?,Option.getD_some,e19];done)|(simp only [lM,lC,lN,Act.eval,Array.getD_eq_getD_getElem?,Option.getD_some,e19];rfl)) ?_
   with_reducible refine (spec_l6Rd_pick.calls k g199 t197 t212 5 t216 t217 w _ ?side1 ?side2 A7.out).mono ?_
   (case side1=>repeat (first|(with_reducible first|exact HI199.out|apply IsS83.alloc|apply IsS83.drewN|apply IsS83.drew|apply IsS83.set_1|refine IsS83.far ?_ Bb.out _)|exact HI199.out))
   (case side2=>repeat (first|(with_reducible first|exact HB.out|apply oA|apply pN|apply o1|refine bS ?_ (IsS83.ge HI199.out)|refine bS ?_ Bf.out)|exact HB.out))
   rintro e w18 ⟨rfl,hi,hb,hk⟩
   refine ⟨_,rfl,?_⟩
   have n0_:=Am (KeepBut.blk hk (g':=Be) (o:=.cells #[.slice none 0 0,.slice none 0 0] 26 (0,0)) (bL Ba.out) Bg.out (by simp))
   have n1_:=Am (rM (Kd.R_keep (IsS83.apart (show IsS83 w _ g199 t197 t212 from by repeat (first|(with_reducible first|exact HI199.out|apply IsS83.alloc|apply IsS83.drewN|apply IsS83.drew|apply IsS83.set_1|refine IsS83.far ?_ Bb.out _)|exact HI199.out)) (rL Bd.out) (by decide)) hk (fun _ h=>h.2)) (fun _ h=>h.1))
   have n2_:=Am (rM (Kd.R_keep (IsS83.apart (show IsS83 w _ g199 t197 t212 from by repeat (first|(with_reducible first|exact HI199.out|apply IsS83.alloc|apply IsS83.drewN|apply IsS83.drew|apply IsS83.set_1|refine IsS83.far ?_ Bb.out _)|exact HI199.out)) (rL Bc.out) (by decide)) hk (fun _ h=>h.2)) (fun _ h=>h.1))
   have n3_:=Am (hb)
   have n4_:=Am (hi)
   have z_HO215:=fun (h0_:b 9=true)=>(show Kd.R (Kd.int .i64) 3 w18 w.heap.size (fun _=>True) v214 y213 from by first|exact (rM (Kd.R_keep (IsS83.apart (show IsS83 w _ g199 t197 t212 from by repeat (first|(with_reducible first|exact HI199.out|apply IsS83.alloc|apply IsS83.drewN|apply IsS83.drew|apply IsS83.set_1|refine IsS83.far ?_ Bb.out _)|exact HI199.out)) (by (with_reducible repeat (first|apply rA|apply rN|apply rD));exact (Q_HO215 h0_)) (by decide)) hk (fun _ h=>h.2)) (fun _ h=>h.1))|exact rM (rM (Kd.R_keep (IsS83.apart (show IsS83 w _ g199 t197 t212 from by repeat (first|(with_reducible first|exact HI199.out|apply IsS83.alloc|apply IsS83.drewN|apply IsS83.drew|apply IsS83.set_1|refine IsS83.far ?_ Bb.out _)|exact HI199.out)) (by (with_reducible repeat (first|apply rA|apply rN|apply rD));exact (Q_HO215 h0_)) (by decide)) hk (fun _ h=>h.2)) (fun _ h=>h.1)) (fun _ h_=>by first|trivial|exact h_|exact h_.1))
   clear Ba
   clear Bd
   clear Bc
   clear HB
   clear HI199
   have Ba:=n0_
   have Bd:=n1_
   have Bc:=n2_
   have HB:=n3_
   have HI199:=n4_
   clear n0_ n1_ n2_ n3_ n4_
   (try clear hb)
   (try clear hb2)
   (try clear hk)
   (try clear hi)
   refine hK.out _ _ ⟨v201,v204,v214,adz_v214,m1_,m12_,(by rw [ha.out];exact putSel_upk 6 hb_ rfl rfl rfl),fun _=>(bL Ba.out),fun h0_=>absurd ((hon 1 (by kernel_rfl)).symm.trans h0_) (by decide),(by repeat (first|(with_reducible first|exact HB.out|apply oA|apply pN|apply o1|refine bS ?_ (IsS83.ge HI199.out)|refine bS ?_ Bf.out)|exact HB.out)),fun _=>(rL Bd.out),fun _=>(rL Bc.out),fun _ h1_=>absurd ((hon 3 (by kernel_rfl)).symm.trans h1_) (by decide),fun _ h1_=>absurd ((hon 5 (by kernel_rfl)).symm.trans h1_) (by decide),fun _ h1_=>absurd ((hon 8 (by kernel_rfl)).symm.trans h1_) (by decide),fun _ h1_=>absurd ((up_self b 11).symm.trans h1_) (by decide),z_HO215,Q_HA_HO215,fun _=>(by repeat (first|(with_reducible first|exact HI199.out|apply IsS83.alloc|apply IsS83.drewN|apply IsS83.drew|apply IsS83.set_1|refine IsS83.far ?_ Bb.out _)|exact HI199.out)),fun h0_=>absurd ((hoff 14 (by kernel_rfl)).symm.trans h0_) (by decide),Q_X1_,fun h0_=>absurd ((hoff 12 (by kernel_rfl)).symm.trans h0_) (by decide)⟩
  refine steps_cons ?_ ?_
  ·rintro b a w' ⟨v201,v204,v214,adz_v214,m1_,m12_,ha,Q_BK196,Q_HI199,Q_HB,Q_HO202,Q_HO205,Q_HI199_e1,Q_HI199_e3,Q_HI199_e5,Q_HI199_e8,Q_HO215,Q_HA_HO215,Q_HI199_e11,Q_BK196_e14,Q_X1_,Q_X12_⟩ hb_ hon hoff
   refine ⟨_,rfl,fun K hK=>?_⟩
   have e18:a.tmps[18]?=some (v214):=by rw [ha];exact putSel_on (e:=(9,18,v214)) 5 rfl rfl (hon 9 (by kernel_rfl)) rfl
   have e20:a.tmps[20]?=some (.int .i64 t216):=by rw [ha];exact putSel_on (e:=(11,20,.int .i64 t216)) 6 rfl rfl (hon 11 (by kernel_rfl)) rfl
   replace ha:=Am ha
   have HB:=Am Q_HB
   have Bd:=Am (Q_HO202 (hon 1 (by kernel_rfl)))
   have Bc:=Am (Q_HO205 (hon 1 (by kernel_rfl)))
   have Bh:=Am (Q_HO215 (hon 9 (by kernel_rfl)))
   have HA_HO215:=Am (Q_HA_HO215 (hon 9 (by kernel_rfl)))
   have HI199:=Am (Q_HI199_e11 (hon 11 (by kernel_rfl)))
   obtain ⟨c_,hv_⟩:=HA_HO215.out
   rw [hv_] at e18
   refine value_ (w1:=w') (v:=.pointer (some (adz_v214.add (t216).toNat))) (by rfl) rfl ?_ ?_
   ·go_simp
    (try simp only [i64_w])
    try rfl
   refine hK.out _ _ ⟨v201,v204,v214,adz_v214,m1_,(.pointer (some (adz_v214.add (t216).toNat))),(by rw [ha.out];exact putSel_upk 7 hb_ rfl rfl rfl),Q_BK196,fun h0_=>absurd ((hon 1 (by kernel_rfl)).symm.trans h0_) (by decide),Q_HB,Q_HO202,Q_HO205,fun _ h1_=>absurd ((hon 3 (by kernel_rfl)).symm.trans h1_) (by decide),fun _ h1_=>absurd ((hon 5 (by kernel_rfl)).symm.trans h1_) (by decide),fun _ h1_=>absurd ((hon 8 (by kernel_rfl)).symm.trans h1_) (by decide),fun _ h1_=>absurd ((hon 11 (by kernel_rfl)).symm.trans h1_) (by decide),Q_HO215,Q_HA_HO215,Q_HI199_e11,Q_BK196_e14,Q_X1_,fun _=>rfl⟩
  refine steps_cons ?_ ?_
  ·rintro b a w' ⟨v201,v204,v214,adz_v214,m1_,m12_,ha,Q_BK196,Q_HI199,Q_HB,Q_HO202,Q_HO205,Q_HI199_e1,Q_HI199_e3,Q_HI199_e5,Q_HI199_e8,Q_HO215,Q_HA_HO215,Q_HI199_e11,Q_BK196_e14,Q_X1_,Q_X12_⟩ hb_ hon hoff
   refine ⟨_,rfl,fun K hK=>?_⟩
   have e21:a.tmps[21]?=some (m12_):=by rw [ha];exact putSel_on (e:=(12,21,m12_)) 7 rfl rfl (hon 12 (by kernel_rfl)) rfl
   rw [Q_X12_ (hon 12 (by kernel_rfl))] at e21
   replace ha:=Am ha
   have HB:=Am Q_HB
   have Bd:=Am (Q_HO202 (hon 1 (by kernel_rfl)))
   have Bc:=Am (Q_HO205 (hon 1 (by kernel_rfl)))
   have Bh:=Am (Q_HO215 (hon 9 (by kernel_rfl)))
   have HA_HO215:=Am (Q_HA_HO215 (hon 9 (by kernel_rfl)))
   have HI199:=Am (Q_HI199_e11 (hon 11 (by kernel_rfl)))
   obtain ⟨c_,hv_⟩:=HA_HO215.out
   have hF_:=Bh.out
   rw [hv_] at hF_
   obtain ⟨ad_,ea_,hx_⟩:=Kd.at_int (rR hF_).2.2 t216 (of_eq_true pi218) (of_eq_true qi218)
   cases ea_
   refine value_ (w1:=w') (v:=.int .i64 (rd y213 t216)) (by rfl) rfl ?_ ?_
   ·go_simp
    (try simp only [i64_w])
    try rfl
   refine hK.out _ _ ⟨v201,v204,v214,adz_v214,m1_,m12_,(by rw [ha.out];exact putSel_upk 8 hb_ rfl rfl rfl),Q_BK196,fun h0_=>absurd ((hon 1 (by kernel_rfl)).symm.trans h0_) (by decide),Q_HB,Q_HO202,Q_HO205,fun _ h1_=>absurd ((hon 3 (by kernel_rfl)).symm.trans h1_) (by decide),fun _ h1_=>absurd ((hon 5 (by kernel_rfl)).symm.trans h1_) (by decide),fun _ h1_=>absurd ((hon 8 (by kernel_rfl)).symm.trans h1_) (by decide),fun _ h1_=>absurd ((hon 11 (by kernel_rfl)).symm.trans h1_) (by decide),Q_HO215,Q_HA_HO215,Q_HI199_e11,Q_BK196_e14,Q_X1_,Q_X12_⟩
  refine steps_cons ?_ ?_
  ·rintro b a w' ⟨v201,v204,v214,adz_v214,m1_,m12_,ha,Q_BK196,Q_HI199,Q_HB,Q_HO202,Q_HO205,Q_HI199_e1,Q_HI199_e3,Q_HI199_e5,Q_HI199_e8,Q_HO215,Q_HA_HO215,Q_HI199_e11,Q_BK196_e14,Q_X1_,Q_X12_⟩ hb_ hon hoff
   refine ⟨_,rfl,fun K hK=>?_⟩
   have e2:a.tmps[2]?=some (.pointer (some ⟨Be,0,none⟩)):=by rw [ha];exact (putSel_off rfl).trans rfl
   have e10:a.tmps[10]?=some (m1_):=by rw [ha];exact putSel_on (e:=(1,10,m1_)) 0 rfl rfl (hon 1 (by kernel_rfl)) rfl
   rw [Q_X1_ (hon 1 (by kernel_rfl))] at e10
   replace ha:=Am ha
   have Ba:=Am (Q_BK196 hb_)
   have HB:=Am Q_HB
   have Bd:=Am (Q_HO202 (hon 1 (by kernel_rfl)))
   have Bc:=Am (Q_HO205 (hon 1 (by kernel_rfl)))
   have HI199:=Am (Q_HI199_e11 (hon 11 (by kernel_rfl)))
   obtain ⟨Ao19,co19,eo19⟩:=rC Bd.out
   (first|subst eo19|(injection eo19 with f1_ f2_ f3_;have f4_:=f1_.symm;have f5_:=f3_.symm;clear f1_ f2_ f3_;subst f4_;subst f5_))
   obtain ⟨Ao21,co21,eo21⟩:=rC Bc.out
   (first|subst eo21|(injection eo21 with f1_ f2_ f3_;have f4_:=f1_.symm;have f5_:=f3_.symm;clear f1_ f2_ f3_;subst f4_;subst f5_))
   have hs20:w'.cell? ⟨Be,0,none⟩=some (.slice none 0 0):=(bC Ba.out 0).trans rfl
   have hfs20:=bF Ba.out 0
   have hs22:w'.cell? ⟨Be,1,none⟩=some (.slice none 0 0):=(bC Ba.out 1).trans rfl
   have hfs22:=bF Ba.out 1
   refine skip_ (w1:=?_) (by rfl) rfl ?_ ?_
   rotate_left;(go_simp;rfl)
   refine hK.out _ _ ⟨.slice Ao19 t200.length co19,.slice Ao21 t203.length co21,v214,adz_v214,m1_,m12_,(by rw [ha.out];exact putSel_none (v:=undef) rfl),fun h0_=>absurd ((up_self b 14).symm.trans h0_) (by decide),fun h0_=>absurd ((hon 1 (by kernel_rfl)).symm.trans h0_) (by decide),(by repeat (first|(with_reducible first|exact HB.out|apply oA|apply pN|apply o1|refine bS ?_ (IsS83.ge HI199.out)|refine bS ?_ Bf.out)|exact HB.out)),fun _=>(by (with_reducible repeat (first|apply rA|apply rN|apply rD));exact rM (rF (p:=⟨Be,1,none⟩) (rF (p:=⟨Be,0,none⟩) (rT Bd.out Ba.out (by decide)) (fun _ hk=>hk.2) (.slice Ao19 t200.length co19)) (fun _ hk=>hk.2) (.slice Ao21 t203.length co21)) (fun _ hk=>trivial)),fun _=>(by (with_reducible repeat (first|apply rA|apply rN|apply rD));exact rM (rF (p:=⟨Be,1,none⟩) (rF (p:=⟨Be,0,none⟩) (rT Bc.out Ba.out (by decide)) (fun _ hk=>hk.2) (.slice Ao19 t200.length co19)) (fun _ hk=>hk.2) (.slice Ao21 t203.length co21)) (fun _ hk=>trivial)),fun _ h1_=>absurd ((hon 3 (by kernel_rfl)).symm.trans h1_) (by decide),fun _ h1_=>absurd ((hon 5 (by kernel_rfl)).symm.trans h1_) (by decide),fun _ h1_=>absurd ((hon 8 (by kernel_rfl)).symm.trans h1_) (by decide),fun _ h1_=>absurd ((hon 11 (by kernel_rfl)).symm.trans h1_) (by decide),fun h0_=>(by (with_reducible repeat (first|apply rA|apply rN|apply rD));exact rM (rF (p:=⟨Be,1,none⟩) (rF (p:=⟨Be,0,none⟩) (rT (Q_HO215 h0_) Ba.out (by decide)) (fun _ hk=>hk.2) (.slice Ao19 t200.length co19)) (fun _ hk=>hk.2) (.slice Ao21 t203.length co21)) (fun _ hk=>hk.1)),Q_HA_HO215,fun _=>(by repeat (first|(with_reducible first|exact HI199.out|apply IsS83.alloc|apply IsS83.drewN|apply IsS83.drew|apply IsS83.set_1|refine IsS83.far ?_ Bb.out _)|exact HI199.out)),fun _=>(by (with_reducible repeat (first|refine bN ?_ _|refine bD ?_|refine bA ?_ _));refine bT (cs:=#[.slice Ao19 t200.length co19,.slice none 0 0]) ?_ 1 _ rfl;(with_reducible repeat (first|refine bN ?_ _|refine bD ?_|refine bA ?_ _));refine bT (cs:=#[.slice none 0 0,.slice none 0 0]) ?_ 0 _ rfl;(with_reducible repeat (first|refine bN ?_ _|refine bD ?_|refine bA ?_ _));exact Ba.out),Q_X1_,Q_X12_⟩
  refine steps_cons ?_ ?_
  ·rintro b a w' ⟨v201,v204,v214,adz_v214,m1_,m12_,ha,Q_BK196,Q_HI199,Q_HB,Q_HO202,Q_HO205,Q_HI199_e1,Q_HI199_e3,Q_HI199_e5,Q_HI199_e8,Q_HO215,Q_HA_HO215,Q_HI199_e11,Q_BK196_e14,Q_X1_,Q_X12_⟩ hb_ hon hoff
   refine ⟨_,rfl,fun K hK=>?_⟩
   have e12:a.tmps[12]?=some (.int .i64 t207):=by rw [ha];exact putSel_on (e:=(3,12,.int .i64 t207)) 1 rfl rfl (hon 3 (by kernel_rfl)) rfl
   replace ha:=Am ha
   have HB:=Am Q_HB
   have Bd:=Am (Q_HO202 (hon 1 (by kernel_rfl)))
   have Bc:=Am (Q_HO205 (hon 1 (by kernel_rfl)))
   have HI199:=Am (Q_HI199_e11 (hon 11 (by kernel_rfl)))
   have Ba:=Am (Q_BK196_e14 (hon 14 (by kernel_rfl)))
   refine value_ (w1:=w') (v:=.int .i64 t207) (by rfl) rfl ?_ ?_
   ·go_simp
    (try simp only [i64_w])
    try rfl
   refine hK.out _ _ ⟨v201,v204,v214,adz_v214,m1_,m12_,(by rw [ha.out];exact putSel_upk 9 hb_ rfl rfl rfl),fun h0_=>absurd ((hon 14 (by kernel_rfl)).symm.trans h0_) (by decide),fun h0_=>absurd ((hon 1 (by kernel_rfl)).symm.trans h0_) (by decide),Q_HB,Q_HO202,Q_HO205,fun _ h1_=>absurd ((hon 3 (by kernel_rfl)).symm.trans h1_) (by decide),fun _ h1_=>absurd ((hon 5 (by kernel_rfl)).symm.trans h1_) (by decide),fun _ h1_=>absurd ((hon 8 (by kernel_rfl)).symm.trans h1_) (by decide),fun _ h1_=>absurd ((hon 11 (by kernel_rfl)).symm.trans h1_) (by decide),Q_HO215,Q_HA_HO215,Q_HI199_e11,Q_BK196_e14,Q_X1_,Q_X12_⟩
  refine steps_cons ?_ ?_
  ·rintro b a w' ⟨v201,v204,v214,adz_v214,m1_,m12_,ha,Q_BK196,Q_HI199,Q_HB,Q_HO202,Q_HO205,Q_HI199_e1,Q_HI199_e3,Q_HI199_e5,Q_HI199_e8,Q_HO215,Q_HA_HO215,Q_HI199_e11,Q_BK196_e14,Q_X1_,Q_X12_⟩ hb_ hon hoff
   refine ⟨_,rfl,fun K hK=>?_⟩
   have e15:a.tmps[15]?=some (.int .i64 (wrap64 (t209 - 1))):=by rw [ha];exact putSel_on (e:=(6,15,.int .i64 (wrap64 (t209 - 1)))) 3 rfl rfl (hon 6 (by kernel_rfl)) rfl
   replace ha:=Am ha
   have HB:=Am Q_HB
   have Bd:=Am (Q_HO202 (hon 1 (by kernel_rfl)))
   have Bc:=Am (Q_HO205 (hon 1 (by kernel_rfl)))
   have HI199:=Am (Q_HI199_e11 (hon 11 (by kernel_rfl)))
   have Ba:=Am (Q_BK196_e14 (hon 14 (by kernel_rfl)))
   refine value_ (w1:=w') (v:=.int .i64 (wrap64 (t209 - 1))) (by rfl) rfl ?_ ?_
   ·go_simp
    (try simp only [i64_w])
    try rfl
   refine hK.out _ _ ⟨v201,v204,v214,adz_v214,m1_,m12_,(by rw [ha.out];exact putSel_upk 10 hb_ rfl rfl rfl),fun h0_=>absurd ((hon 14 (by kernel_rfl)).symm.trans h0_) (by decide),fun h0_=>absurd ((hon 1 (by kernel_rfl)).symm.trans h0_) (by decide),Q_HB,Q_HO202,Q_HO205,fun _ h1_=>absurd ((hon 3 (by kernel_rfl)).symm.trans h1_) (by decide),fun _ h1_=>absurd ((hon 5 (by kernel_rfl)).symm.trans h1_) (by decide),fun _ h1_=>absurd ((hon 8 (by kernel_rfl)).symm.trans h1_) (by decide),fun _ h1_=>absurd ((hon 11 (by kernel_rfl)).symm.trans h1_) (by decide),Q_HO215,Q_HA_HO215,Q_HI199_e11,Q_BK196_e14,Q_X1_,Q_X12_⟩
  refine steps_cons ?_ ?_
  ·rintro b a w' ⟨v201,v204,v214,adz_v214,m1_,m12_,ha,Q_BK196,Q_HI199,Q_HB,Q_HO202,Q_HO205,Q_HI199_e1,Q_HI199_e3,Q_HI199_e5,Q_HI199_e8,Q_HO215,Q_HA_HO215,Q_HI199_e11,Q_BK196_e14,Q_X1_,Q_X12_⟩ hb_ hon hoff
   refine ⟨_,rfl,fun K hK=>?_⟩
   have e22:a.tmps[22]?=some (.int .i64 (rd y213 t216)):=by rw [ha];exact putSel_on (e:=(13,22,.int .i64 (rd y213 t216))) 8 rfl rfl (hon 13 (by kernel_rfl)) rfl
   replace ha:=Am ha
   have HB:=Am Q_HB
   have Bd:=Am (Q_HO202 (hon 1 (by kernel_rfl)))
   have Bc:=Am (Q_HO205 (hon 1 (by kernel_rfl)))
   have Bh:=Am (Q_HO215 (hon 9 (by kernel_rfl)))
   have HA_HO215:=Am (Q_HA_HO215 (hon 9 (by kernel_rfl)))
   have HI199:=Am (Q_HI199_e11 (hon 11 (by kernel_rfl)))
   have Ba:=Am (Q_BK196_e14 (hon 14 (by kernel_rfl)))
   refine value_ (w1:=w') (v:=.int .i64 (rd y213 t216)) (by rfl) rfl ?_ ?_
   ·go_simp
    (try simp only [i64_w])
    try rfl
   refine hK.out _ _ ⟨v201,v204,v214,adz_v214,m1_,m12_,(by rw [ha.out];exact putSel_upk 11 hb_ rfl rfl rfl),fun h0_=>absurd ((hon 14 (by kernel_rfl)).symm.trans h0_) (by decide),fun h0_=>absurd ((hon 1 (by kernel_rfl)).symm.trans h0_) (by decide),Q_HB,Q_HO202,Q_HO205,fun _ h1_=>absurd ((hon 3 (by kernel_rfl)).symm.trans h1_) (by decide),fun _ h1_=>absurd ((hon 5 (by kernel_rfl)).symm.trans h1_) (by decide),fun _ h1_=>absurd ((hon 8 (by kernel_rfl)).symm.trans h1_) (by decide),fun _ h1_=>absurd ((hon 11 (by kernel_rfl)).symm.trans h1_) (by decide),Q_HO215,Q_HA_HO215,Q_HI199_e11,Q_BK196_e14,Q_X1_,Q_X12_⟩
  exact steps_nil
 rintro b a w25 hall ⟨v201,v204,v214,adz_v214,m1_,m12_,ha,Q_BK196,Q_HI199,Q_HB,Q_HO202,Q_HO205,Q_HI199_e1,Q_HI199_e3,Q_HI199_e5,Q_HI199_e8,Q_HO215,Q_HA_HO215,Q_HI199_e11,Q_BK196_e14,Q_X1_,Q_X12_⟩
 clear Ba HB HI199
 have hb1_:=hall 1 (by kernel_rfl)
 have hb3_:=hall 3 (by kernel_rfl)
 have hb5_:=hall 5 (by kernel_rfl)
 have hb6_:=hall 6 (by kernel_rfl)
 have hb8_:=hall 8 (by kernel_rfl)
 have hb9_:=hall 9 (by kernel_rfl)
 have hb11_:=hall 11 (by kernel_rfl)
 have hb12_:=hall 12 (by kernel_rfl)
 have hb13_:=hall 13 (by kernel_rfl)
 have hb14_:=hall 14 (by kernel_rfl)
 have hb15_:=hall 15 (by kernel_rfl)
 have hb16_:=hall 16 (by kernel_rfl)
 have hb17_:=hall 17 (by kernel_rfl)
 subst ha
 obtain rfl:=Q_X1_ hb1_
 obtain rfl:=Q_X12_ hb12_
 simp only [putSel,hb1_,hb3_,hb5_,hb6_,hb8_,hb9_,hb11_,hb12_,hb13_,hb14_,hb15_,hb16_,hb17_,if_true,Act.put,lA,lZ,lS]
 clear Q_BK196
 clear Q_HI199
 have HB:=Am Q_HB
 clear Q_HB
 have Bd:=Am (Q_HO202 hb1_)
 clear Q_HO202
 have Bc:=Am (Q_HO205 hb1_)
 clear Q_HO205
 clear Q_HI199_e1
 clear Q_HI199_e3
 clear Q_HI199_e5
 clear Q_HI199_e8
 have Bh:=Am (Q_HO215 hb9_)
 clear Q_HO215
 have HA_HO215:=Am (Q_HA_HO215 hb9_)
 clear Q_HA_HO215
 have HI199:=Am (Q_HI199_e11 hb11_)
 clear Q_HI199_e11
 have Ba:=Am (Q_BK196_e14 hb14_)
 clear Q_BK196_e14
 clear hall hb1_ hb3_ hb5_ hb6_ hb8_ hb9_ hb11_ hb12_ hb13_ hb14_ hb15_ hb16_ hb17_
 obtain ⟨co26,eo26⟩:=HA_HO215.out
 clear HA_HO215
 subst eo26
 try go_wp2
 refine bodyPost_ret (results_list (rs:=[.cell 2 26,.tmp 3,.tmp 4,.tmp 5]) rfl (by simp) (.cell Be 26 #[v201,v204] (0,0) _ rfl (bL Ba.out) Try.underlying26 rfl (by kernel_rfl) (.tmp (.tmp (.tmp .nil))))) rfl ?_
 exact ⟨_,_,by first|rfl|(simp [errW_none,errW_some] <;> rfl)|(simp [*,errW_none,errW_some] <;> rfl),by (with_reducible repeat (first|apply rA|apply rN|apply rD));exact Bd.out,by (with_reducible repeat (first|apply rA|apply rN|apply rD));exact rM Bc.out (fun _ hk=>trivial),by repeat (first|(with_reducible first|exact HB.out|apply oA|apply pN|apply o1|refine bS ?_ (IsS83.ge HI199.out)|refine bS ?_ Bf.out)|exact HB.out)⟩
end Go.Proofs.Ytpdfkbggaihfpaa.PFnPagesSet
