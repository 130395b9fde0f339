/- Proved here, without a condition beyond those that each theorem states: what the Go functions named below do is what the plain functions of the same names say. Written by xprint.py, a program of this session. -/
import Derived.Test.YtpdfkbggaihfpaaPFnPagesTakex0
import Derived.Test.YtpdfkbggaihfpaaPFnPagesTakex7
import Derived.Test.YtpdfkbggaihfpaaPFnPagesTakex8
import Derived.Test.YtpdfkbggaihfpaaPFnPagesTakex10
namespace Go.Proofs.Ytpdfkbggaihfpaa.PFnPagesTake
open Go.RowKit Go.Proofs.YtpdfkbggaihfpaaW.PrintWords Go.Proofs.YtpdfkbggaihfpaaW.PrintLast Go.Proofs.YtpdfkbggaihfpaaW.PrintMore
attribute [local go_sem] max2_int min2_int max_two min_two max_three min_three max_four min_four   -- for this text's walks alone
set_option linter.unusedVariables false
set_option linter.unusedSimpArgs false

attribute [local go_sem ↓] isSome_setCell_
/-! ### spec_DrawPagesTake: function 30 -/
def spec_DrawPagesTake.f (k : Nat) (l0 : List Int) : Option (List ByteArray × List Int × ByteArray) := (spec_l6Open.f l0).bind fun bt258 => ((spec_l91Pages.f k bt258.1 bt258.2).bind fun bt261 => ((spec_l91Page.f k bt258.1 bt261.2.2).bind fun bt268 => ((some (([bt268.1, (⟨#[112, 97, 103, 101]⟩ : ByteArray), (⟨#[116, 111, 111, 108, 111, 110, 103]⟩ : ByteArray), (⟨#[]⟩ : ByteArray)] : List ByteArray) : List ByteArray)).bind fun y270 => ((spec_l6Rd_pick.f k bt258.1 bt268.2 4).bind fun bt273 => (if 0 ≤ bt273.1 then (if bt273.1 < (y270.length : Int) then (some (bt261.1, bt261.2.1, rdOf ByteArray.empty y270 bt273.1)) else (none)) else (none))))))
theorem spec_DrawPagesTake.mono : ∀ a0 k, LeO (spec_DrawPagesTake.f k a0) (spec_DrawPagesTake.f (k + 1) a0) := by
 intro a0 k
 unfold spec_DrawPagesTake.f
 repeat' first
  |(with_reducible exact spec_l6Rd_pick.mono _ _ _ _)
  |(with_reducible exact spec_l91Page.mono _ _ _)
  |(with_reducible exact spec_l91Pages.mono _ _ _)
  |(with_reducible exact LeO.refl _)
  |(with_reducible exact LeO.none _)
  |(with_reducible refine LeO.ite ?_ ?_)
  |(with_reducible refine LeO.bind ?_ (fun _ => ?_))
  |exact spec_l6Rd_pick.mono _ _ _ _
  |exact spec_l91Page.mono _ _ _
  |exact spec_l91Pages.mono _ _ _
  |exact LeO.none _
  |refine LeO.ite ?_ ?_
  |refine LeO.bind ?_ (fun _ => ?_)
def spec_DrawPagesTake.T2 : Bool × List (List Nat × List Nat) := (true, [([], []), ([0], [0]), ([], []), ([2, 1], [2]), ([3], [3]), ([], []), ([5, 3], [5]), ([4, 6], [4, 6]), ([7], [7]), ([1, 6, 0, 1], [1]), ([8, 9, 0, 1, 2, 3, 4, 5, 6, 7, 8, 9], [8])])
def spec_DrawPagesTake.B2 : List Nat := [0, 1, 0, 7, 15, 0, 47, 127, 255, 111, 1023]
theorem spec_DrawPagesTake.tab2 : rtab .any (opsOf Try.f30 2) = spec_DrawPagesTake.T2 := by kernel_rfl
theorem spec_DrawPagesTake.bits2 : waitsOk spec_DrawPagesTake.T2.2 spec_DrawPagesTake.B2 = true := by kernel_rfl
abbrev z30q0 : Array Bool := bQ 11 0
abbrev z30q1 : Array Bool := bQ 11 1
abbrev z30q2 : Array Bool := bQ 11 5
abbrev z30q3 : Array Bool := bQ 11 37
set_option maxHeartbeats 2000000 in
set_option maxRecDepth 100000 in
theorem spec_DrawPagesTake.calls (k:Nat) (A0:Option Addr) (c0:Nat) (l0:List Int) (r1:List ByteArray) (r2:List Int) (r3:ByteArray) (w:World) (hr0:Kd.C (Kd.int .u8) w A0 l0.length l0) (hc0:l0.length≤c0) (h:spec_DrawPagesTake.f k l0=some (r1,r2,r3)) :
  Calls Try.prog 30 #[.slice A0 l0.length c0] w fun e w'=>∃ v0_ v1_:Value,e=.returned (.tuple #[.agg #[v0_,v1_],.string r3])∧Kd.R Kd.string 9 w' w.heap.size (fun _=>True) v0_ r1∧Kd.R (Kd.int .i64) 3 w' w.heap.size (fun _=>True) v1_ r2∧Below w.heap.size w w':=by
 have hu26:=Try.underlying26
 have HR0:=Am hr0
 have HC0:=Am hc0
 clear hr0 hc0
 have HB:=Am (bJ w.heap.size w)
 have H:((spec_l6Open.f l0).bind fun bt258=>((spec_l91Pages.f k bt258.1 bt258.2).bind fun bt261=>((spec_l91Page.f k bt258.1 bt261.2.2).bind fun bt268=>((some (([bt268.1,(⟨#[112,97,103,101]⟩:ByteArray),(⟨#[116,111,111,108,111,110,103]⟩:ByteArray),(⟨#[]⟩:ByteArray)]:List ByteArray):List ByteArray)).bind fun y270=>((spec_l6Rd_pick.f k bt258.1 bt268.2 4).bind fun bt273=>(if 0≤bt273.1 then (if bt273.1<(y270.length:Int) then (some (bt261.1,bt261.2.1,rdOf ByteArray.empty y270 bt273.1)) else (none)) else (none)))))))=some (r1,r2,r3):=h
 clear h
 replace H:=oC H
 obtain ⟨⟨t258,t259⟩,A20,H⟩:=H
 replace H:((spec_l91Pages.f k t258 t259).bind fun bt261=>((spec_l91Page.f k t258 bt261.2.2).bind fun bt268=>((some (([bt268.1,(⟨#[112,97,103,101]⟩:ByteArray),(⟨#[116,111,111,108,111,110,103]⟩:ByteArray),(⟨#[]⟩:ByteArray)]:List ByteArray):List ByteArray)).bind fun y270=>((spec_l6Rd_pick.f k t258 bt268.2 4).bind fun bt273=>(if 0≤bt273.1 then (if bt273.1<(y270.length:Int) then (some (bt261.1,bt261.2.1,rdOf ByteArray.empty y270 bt273.1)) else (none)) else (none))))))=some (r1,r2,r3):=H
 have A2:=Am A20
 clear A20
 replace H:=oC H
 obtain ⟨⟨t261,t264,t267⟩,A30,H⟩:=H
 replace H:((spec_l91Page.f k t258 t267).bind fun bt268=>((some (([bt268.1,(⟨#[112,97,103,101]⟩:ByteArray),(⟨#[116,111,111,108,111,110,103]⟩:ByteArray),(⟨#[]⟩:ByteArray)]:List ByteArray):List ByteArray)).bind fun y270=>((spec_l6Rd_pick.f k t258 bt268.2 4).bind fun bt273=>(if 0≤bt273.1 then (if bt273.1<(y270.length:Int) then (some (t261,t264,rdOf ByteArray.empty y270 bt273.1)) else (none)) else (none)))))=some (r1,r2,r3):=H
 have A3:=Am A30
 clear A30
 replace H:=oC H
 obtain ⟨⟨t268,t269⟩,A40,H⟩:=H
 replace H:((some (([t268,(⟨#[112,97,103,101]⟩:ByteArray),(⟨#[116,111,111,108,111,110,103]⟩:ByteArray),(⟨#[]⟩:ByteArray)]:List ByteArray):List ByteArray)).bind fun y270=>((spec_l6Rd_pick.f k t258 t269 4).bind fun bt273=>(if 0≤bt273.1 then (if bt273.1<(y270.length:Int) then (some (t261,t264,rdOf ByteArray.empty y270 bt273.1)) else (none)) else (none))))=some (r1,r2,r3):=H
 have A4:=Am A40
 clear A40
 obtain ⟨y270,hy270⟩:∃ y_:List ByteArray,y_=(([t268,(⟨#[112,97,103,101]⟩:ByteArray),(⟨#[116,111,111,108,111,110,103]⟩:ByteArray),(⟨#[]⟩:ByteArray)]:List ByteArray)):=⟨_,rfl⟩
 replace H:((spec_l6Rd_pick.f k t258 t269 4).bind fun bt273=>(if 0≤bt273.1 then (if bt273.1<(y270.length:Int) then (some (t261,t264,rdOf ByteArray.empty y270 bt273.1)) else (none)) else (none)))=some (r1,r2,r3):=by first|(rw [hy270];with_reducible exact H)|(have H2_:=(Option.bind_some _ _).symm.trans H;rw [hy270];with_reducible exact H2_)|(have H2_:=(Option.bind_some _ _).symm.trans H;with_reducible exact H2_)|with_reducible exact H|(rw [hy270];exact H)|exact H
 have Ny270:=Am hy270
 clear hy270
 replace H:=oC H
 obtain ⟨⟨t273,t274⟩,A50,H⟩:=H
 replace H:(if 0≤t273 then (if t273<(y270.length:Int) then (some (t261,t264,rdOf ByteArray.empty y270 t273)) else (none)) else (none))=some (r1,r2,r3):=H
 have A5:=Am A50
 clear A50
 by_cases c6:0≤t273
 rotate_left
 ·rw [if_neg c6] at H
  exact absurd H (by simp)

 rw [if_pos c6] at H
 have c6b0:decide (0≤t273)=true:=dT c6
 clear c6
 by_cases c7:t273<(y270.length:Int)
 rotate_left
 ·rw [if_neg c7] at H
  exact absurd H (by simp)
 rw [if_pos c7] at H
 have c7b0:decide (t273<(y270.length:Int))=true:=dT c7
 clear c7
 simp only [Option.some.injEq,Prod.mk.injEq] at H
 obtain ⟨rfl,rfl,rfl⟩:=H
 go_enter Try.func30,Try.ntmps30
 try go_wp2_with (first|((with_reducible refine gD (N:=2) rfl ?_);refine bI ?hg (N:=2) ?hd (cs:=#[.slice none 0 0,.slice none 0 0]) (t:=26) ?hr ?_;(case hd=>rfl);(case hg=>rfl);(case hr=>first|(go_simp;done)|(go_simp;rfl));intro Bd hg w8 hbox hb;have n0_:=Am (bP (by repeat (first|(with_reducible first|exact HB.out|apply oA|apply pN|apply o1)|exact HB.out)) hb);have n1_:=Am (hbox);have n2_:=Am ((by rw [hg];exact (bZ (by repeat (first|(with_reducible first|exact HB.out|apply oA|apply pN|apply o1)|exact HB.out))):w.heap.size≤Bd));have n3_:=Am ((by rw [hg];exact (bZ (by repeat (first|(with_reducible first|exact HB.out|apply oA|apply pN|apply o1)|exact HB.out))):w.heap.size≤Bd));clear HB;revert n0_ n1_ n2_ n3_;intro HB Ba Bi Bf;clear hb hbox hg)|((with_reducible refine gC (f:=40) rfl ?_);refine goesL_ (some 6) rfl rfl Try.func40 (by kernel_rfl) rfl #[.slice A0 l0.length c0] rfl (by (try simp only [lM,lC,lN]);first|done|rfl|(simp only [lD,lT];rfl)) ?_;(with_reducible refine (spec_l6Open.calls _ _ l0 t258 t259 w _ ?side1 ?side2 ?side3 A2.out).mono ?_);(case side1=>repeat (first|(with_reducible first|exact HB.out|apply oA|apply pN|apply o1|refine bS ?_ Bf.out)|exact HB.out));(case side2=>exact HR0.out);(case side3=>exact HC0.out);rintro e w9 ⟨g260,rfl,hi,hb,hb2⟩;refine ⟨_,rfl,?_⟩;have n0_:=Am (bB (g:=Bd) (o:=.cells #[.slice none 0 0,.slice none 0 0] 26 (0,0)) (bL Ba.out) hb2);have n1_:=Am (hb);have n2_:=Am (hi);have n3_:=Am (IsS83.ne_blk hi (bB (g:=Bd) (o:=.cells #[.slice none 0 0,.slice none 0 0] 26 (0,0)) (bL Ba.out) hb2) (by decide));have n4_:=Am (Ne.symm (IsS83.ne_blk hi (bB (g:=Bd) (o:=.cells #[.slice none 0 0,.slice none 0 0] 26 (0,0)) (bL Ba.out) hb2) (by decide)));clear Ba HB;revert n0_ n1_ n2_ n3_ n4_;intro Ba HB HI260 Bb Bh;(try clear hb);(try clear hb2);(try clear hk);(try clear hi)))
 have pi275:(0≤(t273:Int))=True:=eq_true (oE (by first|(with_reducible assumption)|assumption))
 have qi275:(t273<(y270.length:Int))=True:=eq_true (oE (by first|(with_reducible assumption)|assumption))
 have n0_:=Am (bD Ba.out)
 have n1_:=Am (IsS83.drew HI260.out)
 have n2_:=Am (o1 HB.out)
 clear Ba
 clear HI260
 clear HB
 have Ba:=n0_
 have HI260:=n1_
 have HB:=n2_
 clear n0_ n1_ n2_
 refine start_ (n:=11) (S:=fun w'=>True) (ds:=[]) z30q0 (by kernel_rfl) rfl rfl trivial (fun hHeld=>?_);refine with_st spec_DrawPagesTake.tab2 spec_DrawPagesTake.bits2 (fun _ _ _ _ _ h=>h) (fun HT_=>?_)
 generalize w9.drew=w10 at Ba HI260 HB hHeld ⊢
 refine pS 0 7 z30q1 HT_ rfl rfl (by kernel_rfl) (by rfl) (by intro w';go_simp;with_reducible rfl) (by simp only [Act.put,lA,lZ,lS,iw,jw];rfl) ?_
 refine pS 2 9 z30q2 HT_ rfl rfl (by kernel_rfl) (by rfl) (by intro w';go_simp;with_reducible rfl) (by simp only [Act.put,lA,lZ,lS,iw,jw];rfl) ?_
 refine pS 5 12 z30q3 HT_ rfl rfl (by kernel_rfl) (by rfl) (by intro w';go_simp;with_reducible rfl) (by simp only [Act.put,lA,lZ,lS,iw,jw];rfl) ?_
 refine inv_at [1,3,4,6,7,8,9,10] (fun a0_ b a w'=>∃ (v262:Value) (v265:Value) (v271:Value) (adz_v271:Addr) (m1_:Value) (m7_:Value),a=putSel a0_ b [(1,8,m1_),(3,10,.string t268),(4,11,v271),(6,13,.int .i64 t273),(7,14,m7_),(8,15,.string (rdOf ByteArray.empty y270 t273)),(10,3,.string (rdOf ByteArray.empty y270 t273))]∧(b 9=false → w'.heap[Bd]?=some (.cells #[.slice none 0 0,.slice none 0 0] 26 (0,0)))∧(b 1=false → IsS83 w w' g260 t258 t259)∧(Below w.heap.size w w')∧(b 1=true → Kd.R Kd.string 9 w' w.heap.size (fun _=>True) v262 t261)∧(b 1=true → Kd.R (Kd.int .i64) 3 w' w.heap.size (fun _=>True) v265 t264)∧(b 1=true → b 3=false → IsS83 w w' g260 t258 t267)∧(b 3=true → b 6=false → IsS83 w w' g260 t258 t269)∧(b 4=true → Kd.R Kd.string 9 w' w.heap.size (fun _=>True) v271 y270)∧(b 4=true → ∃ c_,(v271:Value)=.slice (some adz_v271) y270.length c_)∧(b 6=true → IsS83 w w' g260 t258 t274)∧(b 9=true → w'.heap[Bd]?=some (.cells #[v262,v265] 26 (0,0)))∧(b 1=true → (m1_:Value)=.agg #[v262,v265])∧(b 7=true → (m7_:Value)=.pointer (some (adz_v271.add (t273).toNat)))) HT_.out HT_.b (by kernel_rfl) (by kernel_rfl) ?_ ?_ ?_
 ·exact ⟨.bool false,.bool false,.bool false,⟨0,0,none⟩,.bool false,.bool false,by simp only [putSel,Bool.false_eq_true,if_false],fun _=>Ba.out,fun _=>HI260.out,HB.out,fun h_=>absurd h_ (by decide),fun h_=>absurd h_ (by decide),fun h_=>absurd h_ (by decide),fun h_=>absurd h_ (by decide),fun h_=>absurd h_ (by decide),fun h_=>absurd h_ (by decide),fun h_=>absurd h_ (by decide),fun h_=>absurd h_ (by decide),fun h_=>absurd h_ (by decide),fun h_=>absurd h_ (by decide)⟩
 ·skip
  clear Ba HB HI260
  refine steps_cons ?_ ?_
  ·rintro b a w' ⟨v262,v265,v271,adz_v271,m1_,m7_,ha,Q_BK257,Q_HI260,Q_HB,Q_HO263,Q_HO266,Q_HI260_e1,Q_HI260_e3,Q_HO272,Q_HA_HO272,Q_HI260_e6,Q_BK257_e9,Q_X1_,Q_X7_⟩ hb_ hon hoff
   refine ⟨_,rfl,fun K hK=>?_⟩
   have e7:a.tmps[7]?=some (.pointer (some ⟨g260,0,none⟩)):=by rw [ha];exact (putSel_off rfl).trans rfl
   replace ha:=Am ha
   have Ba:=Am (Q_BK257 (hoff 9 (by kernel_rfl)))
   have HI260:=Am (Q_HI260 hb_)
   have HB:=Am Q_HB
   refine goes_ Try.func41 (by kernel_rfl) rfl #[.pointer (some ⟨g260,0,none⟩)] (by rfl) rfl rfl (by first|(simp only [lM,lC,lN,Act.eval,Array.getD_eq_getD_getElem?,Option.getD_some,e7];done)|(simp only [lM,lC,lN,Act.eval,Array.getD_eq_getD_getElem?,Option.getD_some,e7];rfl)) ?_
   with_reducible refine (spec_l91Pages.calls k g260 t258 t259 t261 t264 t267 w _ ?side1 ?side2 A3.out).mono ?_
   (case side1=>repeat (first|(with_reducible first|exact HI260.out|apply IsS83.alloc|apply IsS83.drewN|apply IsS83.drew|apply IsS83.set_1|refine IsS83.far ?_ Bb.out _)|exact HI260.out))
   (case side2=>repeat (first|(with_reducible first|exact HB.out|apply oA|apply pN|apply o1|refine bS ?_ (IsS83.ge HI260.out)|refine bS ?_ Bf.out)|exact HB.out))
   rintro e w11 ⟨v262,v265,rfl,ho0,ho1,hi,hb,hk⟩
   refine ⟨_,rfl,?_⟩
   have n0_:=Am (KeepBut.blk hk (g':=Bd) (o:=.cells #[.slice none 0 0,.slice none 0 0] 26 (0,0)) (bL Ba.out) Bh.out (by simp))
   have n1_:=Am (rW ho0 (bZ (by repeat (first|(with_reducible first|exact HB.out|apply oA|apply pN|apply o1|refine bS ?_ (IsS83.ge HI260.out)|refine bS ?_ Bf.out)|exact HB.out))))
   have n2_:=Am (rW ho1 (bZ (by repeat (first|(with_reducible first|exact HB.out|apply oA|apply pN|apply o1|refine bS ?_ (IsS83.ge HI260.out)|refine bS ?_ Bf.out)|exact HB.out))))
   have n3_:=Am (hb)
   have n4_:=Am (hi)
   clear Ba
   clear HB
   clear HI260
   have Ba:=n0_
   have Bc:=n1_
   have Be:=n2_
   have HB:=n3_
   have HI260:=n4_
   clear n0_ n1_ n2_ n3_ n4_
   (try clear hb)
   (try clear hb2)
   (try clear hk)
   (try clear hi)
   (try clear ho0)
   (try clear ho1)
   refine hK.out _ _ ⟨v262,v265,v271,adz_v271,(.agg #[v262,v265]),m7_,(by rw [ha.out];exact putSel_upk 0 hb_ rfl rfl rfl),fun _=>(bL Ba.out),fun h0_=>absurd ((up_self b 1).symm.trans h0_) (by decide),(by repeat (first|(with_reducible first|exact HB.out|apply oA|apply pN|apply o1|refine bS ?_ (IsS83.ge HI260.out)|refine bS ?_ Bf.out)|exact HB.out)),fun _=>(rL Bc.out),fun _=>(rL Be.out),fun _ _=>(by repeat (first|(with_reducible first|exact HI260.out|apply IsS83.alloc|apply IsS83.drewN|apply IsS83.drew|apply IsS83.set_1|refine IsS83.far ?_ Bb.out _)|exact HI260.out)),fun h0_ _=>absurd ((hoff 3 (by kernel_rfl)).symm.trans h0_) (by decide),fun h0_=>absurd ((hoff 4 (by kernel_rfl)).symm.trans h0_) (by decide),fun h0_=>absurd ((hoff 4 (by kernel_rfl)).symm.trans h0_) (by decide),fun h0_=>absurd ((hoff 6 (by kernel_rfl)).symm.trans h0_) (by decide),fun h0_=>absurd ((hoff 9 (by kernel_rfl)).symm.trans h0_) (by decide),fun _=>rfl,fun h0_=>absurd ((hoff 7 (by kernel_rfl)).symm.trans h0_) (by decide)⟩
  refine steps_cons ?_ ?_
  ·rintro b a w' ⟨v262,v265,v271,adz_v271,m1_,m7_,ha,Q_BK257,Q_HI260,Q_HB,Q_HO263,Q_HO266,Q_HI260_e1,Q_HI260_e3,Q_HO272,Q_HA_HO272,Q_HI260_e6,Q_BK257_e9,Q_X1_,Q_X7_⟩ hb_ hon hoff
   refine ⟨_,rfl,fun K hK=>?_⟩
   have e9:a.tmps[9]?=some (.pointer (some ⟨g260,0,none⟩)):=by rw [ha];exact (putSel_off rfl).trans rfl
   replace ha:=Am ha
   have Ba:=Am (Q_BK257 (hoff 9 (by kernel_rfl)))
   have HB:=Am Q_HB
   have Bc:=Am (Q_HO263 (hon 1 (by kernel_rfl)))
   have Be:=Am (Q_HO266 (hon 1 (by kernel_rfl)))
   have HI260:=Am (Q_HI260_e1 (hon 1 (by kernel_rfl)) hb_)
   refine goes_ Try.func58 (by kernel_rfl) rfl #[.pointer (some ⟨g260,0,none⟩)] (by rfl) rfl rfl (by first|(simp only [lM,lC,lN,Act.eval,Array.getD_eq_getD_getElem?,Option.getD_some,e9];done)|(simp only [lM,lC,lN,Act.eval,Array.getD_eq_getD_getElem?,Option.getD_some,e9];rfl)) ?_
   with_reducible refine (spec_l91Page.calls k g260 t258 t267 t268 t269 w _ ?side1 ?side2 A4.out).mono ?_
   (case side1=>repeat (first|(with_reducible first|exact HI260.out|apply IsS83.alloc|apply IsS83.drewN|apply IsS83.drew|apply IsS83.set_1|refine IsS83.far ?_ Bb.out _)|exact HI260.out))
   (case side2=>repeat (first|(with_reducible first|exact HB.out|apply oA|apply pN|apply o1|refine bS ?_ (IsS83.ge HI260.out)|refine bS ?_ Bf.out)|exact HB.out))
   rintro e w13 ⟨rfl,hi,hb,hk⟩
   refine ⟨_,rfl,?_⟩
   have n0_:=Am (KeepBut.blk hk (g':=Bd) (o:=.cells #[.slice none 0 0,.slice none 0 0] 26 (0,0)) (bL Ba.out) Bh.out (by simp))
   have n1_:=Am (rM (Kd.R_keep (IsS83.apart (show IsS83 w _ g260 t258 t267 from by repeat (first|(with_reducible first|exact HI260.out|apply IsS83.alloc|apply IsS83.drewN|apply IsS83.drew|apply IsS83.set_1|refine IsS83.far ?_ Bb.out _)|exact HI260.out)) (rL Bc.out) (by decide)) hk (fun _ h=>h.2)) (fun _ h=>h.1))
   have n2_:=Am (rM (Kd.R_keep (IsS83.apart (show IsS83 w _ g260 t258 t267 from by repeat (first|(with_reducible first|exact HI260.out|apply IsS83.alloc|apply IsS83.drewN|apply IsS83.drew|apply IsS83.set_1|refine IsS83.far ?_ Bb.out _)|exact HI260.out)) (rL Be.out) (by decide)) hk (fun _ h=>h.2)) (fun _ h=>h.1))
   have n3_:=Am (hb)
   have n4_:=Am (hi)
   clear Ba
   clear Bc
   clear Be
   clear HB
   clear HI260
   have Ba:=n0_
   have Bc:=n1_
   have Be:=n2_
   have HB:=n3_
   have HI260:=n4_
   clear n0_ n1_ n2_ n3_ n4_
   (try clear hb)
   (try clear hb2)
   (try clear hk)
   (try clear hi)
   refine hK.out _ _ ⟨v262,v265,v271,adz_v271,m1_,m7_,(by rw [ha.out];exact putSel_upk 1 hb_ rfl rfl rfl),fun _=>(bL Ba.out),fun h0_=>absurd ((hon 1 (by kernel_rfl)).symm.trans h0_) (by decide),(by repeat (first|(with_reducible first|exact HB.out|apply oA|apply pN|apply o1|refine bS ?_ (IsS83.ge HI260.out)|refine bS ?_ Bf.out)|exact HB.out)),fun _=>(rL Bc.out),fun _=>(rL Be.out),fun _ h1_=>absurd ((up_self b 3).symm.trans h1_) (by decide),fun _ _=>(by repeat (first|(with_reducible first|exact HI260.out|apply IsS83.alloc|apply IsS83.drewN|apply IsS83.drew|apply IsS83.set_1|refine IsS83.far ?_ Bb.out _)|exact HI260.out)),fun h0_=>absurd ((hoff 4 (by kernel_rfl)).symm.trans h0_) (by decide),fun h0_=>absurd ((hoff 4 (by kernel_rfl)).symm.trans h0_) (by decide),fun h0_=>absurd ((hoff 6 (by kernel_rfl)).symm.trans h0_) (by decide),fun h0_=>absurd ((hoff 9 (by kernel_rfl)).symm.trans h0_) (by decide),Q_X1_,fun h0_=>absurd ((hoff 7 (by kernel_rfl)).symm.trans h0_) (by decide)⟩
  refine steps_cons ?_ ?_
  ·rintro b a w' ⟨v262,v265,v271,adz_v271,m1_,m7_,ha,Q_BK257,Q_HI260,Q_HB,Q_HO263,Q_HO266,Q_HI260_e1,Q_HI260_e3,Q_HO272,Q_HA_HO272,Q_HI260_e6,Q_BK257_e9,Q_X1_,Q_X7_⟩ hb_ hon hoff
   refine ⟨_,rfl,fun K hK=>?_⟩
   have e10:a.tmps[10]?=some (.string t268):=by rw [ha];exact putSel_on (e:=(3,10,.string t268)) 1 rfl rfl (hon 3 (by kernel_rfl)) rfl
   replace ha:=Am ha
   have HB:=Am Q_HB
   have Bc:=Am (Q_HO263 (hon 1 (by kernel_rfl)))
   have Be:=Am (Q_HO266 (hon 1 (by kernel_rfl)))
   refine Kd.R_lit_step Kd.string _ 9 ?hg (N:=11) ?hd (xs:=([t268,(⟨#[112,97,103,101]⟩:ByteArray),(⟨#[116,111,111,108,111,110,103]⟩:ByteArray),(⟨#[]⟩:ByteArray)]:List ByteArray)) (inner:=[.string t268,.string (⟨#[112,97,103,101]⟩:ByteArray),.string (⟨#[116,111,111,108,111,110,103]⟩:ByteArray),.string (⟨#[]⟩:ByteArray)]) (ok:=fun _=>True) (okp:=fun _=>True) ?hr ?hp (fun _ hk=>hk) trivial (bJ _ _) (nR _) (by simp) ?_;(case hd=>rfl);(case hg=>rfl);(case hr=>first|(go_simp;done)|(go_simp;rfl));(case hp=>exact (Reps.one (show Kd.M Kd.string _ _ _ t268 [.string t268] from rfl) (Reps.one (show Kd.M Kd.string _ _ _ (⟨#[112,97,103,101]⟩:ByteArray) [.string (⟨#[112,97,103,101]⟩:ByteArray)] from rfl) (Reps.one (show Kd.M Kd.string _ _ _ (⟨#[116,111,111,108,111,110,103]⟩:ByteArray) [.string (⟨#[116,111,111,108,111,110,103]⟩:ByteArray)] from rfl) (Reps.one (show Kd.M Kd.string _ _ _ (⟨#[]⟩:ByteArray) [.string (⟨#[]⟩:ByteArray)] from rfl) (Reps.none _ _))))))
   intro v271 w14 ho15 hb hg_ hnew_
   clear hg_ hnew_
   (first|rw [← Ny270.out] at ho15|(simp only [Int.reduceToNat] at ho15;rw [← Ny270.out] at ho15))
   have n0_:=Am (rX (rL Bc.out) (rZ ho15) hb)
   have n1_:=Am (rB (rL Be.out) hb)
   have n2_:=Am (rW (rQ ho15 (rI (rL Bc.out))) (bZ (by repeat (first|(with_reducible first|exact HB.out|apply oA|apply pN|apply o1|refine bS ?_ Bf.out)|exact HB.out))))
   have n5_:=Am (bP (by repeat (first|(with_reducible first|exact HB.out|apply oA|apply pN|apply o1|refine bS ?_ Bf.out)|exact HB.out)) hb)
   have z_BK257:=fun (h0_:b 9=false)=>(show w14.heap[Bd]?=some (.cells #[.slice none 0 0,.slice none 0 0] 26 (0,0)) from by first|exact (bB (g:=Bd) (o:=.cells #[.slice none 0 0,.slice none 0 0] 26 (0,0)) (by (with_reducible repeat (first|refine bN ?_ _|refine bD ?_|refine bA ?_ _));exact (Q_BK257 h0_)) hb))
   have z_HI260_e3:=fun (h0_:b 3=true) (h1_:b 6=false)=>(show IsS83 w w14 g260 t258 t269 from by first|exact (IsS83.below (by repeat (first|(with_reducible first|exact (Q_HI260_e3 h0_ h1_)|apply IsS83.alloc|apply IsS83.drewN|apply IsS83.drew|apply IsS83.set_1|refine IsS83.far ?_ Bb.out _)|exact (Q_HI260_e3 h0_ h1_))) hb))
   have z_HI260_e6:=fun (h0_:b 6=true)=>(show IsS83 w w14 g260 t258 t274 from by first|exact (IsS83.below (by repeat (first|(with_reducible first|exact (Q_HI260_e6 h0_)|apply IsS83.alloc|apply IsS83.drewN|apply IsS83.drew|apply IsS83.set_1|refine IsS83.far ?_ Bb.out _)|exact (Q_HI260_e6 h0_))) hb))
   have z_BK257_e9:=fun (h0_:b 9=true)=>(show w14.heap[Bd]?=some (.cells #[v262,v265] 26 (0,0)) from by first|exact (bB (g:=Bd) (o:=.cells #[v262,v265] 26 (0,0)) (by (with_reducible repeat (first|refine bN ?_ _|refine bD ?_|refine bA ?_ _));exact (Q_BK257_e9 h0_)) hb))
   clear Bc
   clear Be
   clear HB
   have Bc:=n0_
   have Be:=n1_
   have Bg:=n2_
   have HB:=n5_
   clear n0_ n1_ n2_ n5_
   clear hb ho15
   obtain ⟨Ao16,co16,eo16⟩:=rC Bg.out
   subst eo16
   obtain ⟨ado16,fo16,_⟩:=Kd.at_string (rR Bg.out).2.2 0 (by decide) (by rw [Ny270.out];simp)
   cases fo16
   refine hK.out _ _ ⟨v262,v265,.slice (some ado16) y270.length co16,ado16,m1_,m7_,(by rw [ha.out];exact putSel_upk 2 hb_ rfl rfl rfl),z_BK257,fun h0_=>absurd ((hon 1 (by kernel_rfl)).symm.trans h0_) (by decide),(by repeat (first|(with_reducible first|exact HB.out|apply oA|apply pN|apply o1|refine bS ?_ Bf.out)|exact HB.out)),fun _=>(by (with_reducible repeat (first|apply rA|apply rN|apply rD));exact rM Bc.out (fun _ hk=>by first|exact hk.2|trivial)),fun _=>(rL Be.out),fun _ h1_=>absurd ((hon 3 (by kernel_rfl)).symm.trans h1_) (by decide),z_HI260_e3,fun _=>(by (with_reducible repeat (first|apply rA|apply rN|apply rD));exact rM Bg.out (fun _ hk=>by first|exact hk.2|trivial)),fun _=>⟨_,rfl⟩,z_HI260_e6,z_BK257_e9,Q_X1_,fun h0_=>absurd ((hoff 7 (by kernel_rfl)).symm.trans h0_) (by decide)⟩
  refine steps_cons ?_ ?_
  ·rintro b a w' ⟨v262,v265,v271,adz_v271,m1_,m7_,ha,Q_BK257,Q_HI260,Q_HB,Q_HO263,Q_HO266,Q_HI260_e1,Q_HI260_e3,Q_HO272,Q_HA_HO272,Q_HI260_e6,Q_BK257_e9,Q_X1_,Q_X7_⟩ hb_ hon hoff
   refine ⟨_,rfl,fun K hK=>?_⟩
   have e12:a.tmps[12]?=some (.pointer (some ⟨g260,0,none⟩)):=by rw [ha];exact (putSel_off rfl).trans rfl
   replace ha:=Am ha
   have Ba:=Am (Q_BK257 (hoff 9 (by kernel_rfl)))
   have HB:=Am Q_HB
   have Bc:=Am (Q_HO263 (hon 1 (by kernel_rfl)))
   have Be:=Am (Q_HO266 (hon 1 (by kernel_rfl)))
   have HI260:=Am (Q_HI260_e3 (hon 3 (by kernel_rfl)) hb_)
   refine goes_ Try.func47 (by kernel_rfl) rfl #[.pointer (some ⟨g260,0,none⟩),.int .i64 4] (by rfl) rfl rfl (by first|(simp only [lM,lC,lN,Act.eval,Array.getD_eq_getD_getElem?,Option.getD_some,e12];done)|(simp only [lM,lC,lN,Act.eval,Array.getD_eq_getD_getElem?,Option.getD_some,e12];rfl)) ?_
   with_reducible refine (spec_l6Rd_pick.calls k g260 t258 t269 4 t273 t274 w _ ?side1 ?side2 A5.out).mono ?_
   (case side1=>repeat (first|(with_reducible first|exact HI260.out|apply IsS83.alloc|apply IsS83.drewN|apply IsS83.drew|apply IsS83.set_1|refine IsS83.far ?_ Bb.out _)|exact HI260.out))
   (case side2=>repeat (first|(with_reducible first|exact HB.out|apply oA|apply pN|apply o1|refine bS ?_ (IsS83.ge HI260.out)|refine bS ?_ Bf.out)|exact HB.out))
   rintro e w14 ⟨rfl,hi,hb,hk⟩
   refine ⟨_,rfl,?_⟩
   have n0_:=Am (KeepBut.blk hk (g':=Bd) (o:=.cells #[.slice none 0 0,.slice none 0 0] 26 (0,0)) (bL Ba.out) Bh.out (by simp))
   have n1_:=Am (rM (Kd.R_keep (IsS83.apart (show IsS83 w _ g260 t258 t269 from by repeat (first|(with_reducible first|exact HI260.out|apply IsS83.alloc|apply IsS83.drewN|apply IsS83.drew|apply IsS83.set_1|refine IsS83.far ?_ Bb.out _)|exact HI260.out)) (rL Bc.out) (by decide)) hk (fun _ h=>h.2)) (fun _ h=>h.1))
   have n2_:=Am (rM (Kd.R_keep (IsS83.apart (show IsS83 w _ g260 t258 t269 from by repeat (first|(with_reducible first|exact HI260.out|apply IsS83.alloc|apply IsS83.drewN|apply IsS83.drew|apply IsS83.set_1|refine IsS83.far ?_ Bb.out _)|exact HI260.out)) (rL Be.out) (by decide)) hk (fun _ h=>h.2)) (fun _ h=>h.1))
   have n3_:=Am (hb)
   have n4_:=Am (hi)
   have z_HO272:=fun (h0_:b 4=true)=>(show Kd.R Kd.string 9 w14 w.heap.size (fun _=>True) v271 y270 from by first|exact (rM (Kd.R_keep (IsS83.apart (show IsS83 w _ g260 t258 t269 from by repeat (first|(with_reducible first|exact HI260.out|apply IsS83.alloc|apply IsS83.drewN|apply IsS83.drew|apply IsS83.set_1|refine IsS83.far ?_ Bb.out _)|exact HI260.out)) (by (with_reducible repeat (first|apply rA|apply rN|apply rD));exact (Q_HO272 h0_)) (by decide)) hk (fun _ h=>h.2)) (fun _ h=>h.1))|exact rM (rM (Kd.R_keep (IsS83.apart (show IsS83 w _ g260 t258 t269 from by repeat (first|(with_reducible first|exact HI260.out|apply IsS83.alloc|apply IsS83.drewN|apply IsS83.drew|apply IsS83.set_1|refine IsS83.far ?_ Bb.out _)|exact HI260.out)) (by (with_reducible repeat (first|apply rA|apply rN|apply rD));exact (Q_HO272 h0_)) (by decide)) hk (fun _ h=>h.2)) (fun _ h=>h.1)) (fun _ h_=>by first|trivial|exact h_|exact h_.1))
   clear Ba
   clear Bc
   clear Be
   clear HB
   clear HI260
   have Ba:=n0_
   have Bc:=n1_
   have Be:=n2_
   have HB:=n3_
   have HI260:=n4_
   clear n0_ n1_ n2_ n3_ n4_
   (try clear hb)
   (try clear hb2)
   (try clear hk)
   (try clear hi)
   refine hK.out _ _ ⟨v262,v265,v271,adz_v271,m1_,m7_,(by rw [ha.out];exact putSel_upk 3 hb_ rfl rfl rfl),fun _=>(bL Ba.out),fun h0_=>absurd ((hon 1 (by kernel_rfl)).symm.trans h0_) (by decide),(by repeat (first|(with_reducible first|exact HB.out|apply oA|apply pN|apply o1|refine bS ?_ (IsS83.ge HI260.out)|refine bS ?_ Bf.out)|exact HB.out)),fun _=>(rL Bc.out),fun _=>(rL Be.out),fun _ h1_=>absurd ((hon 3 (by kernel_rfl)).symm.trans h1_) (by decide),fun _ h1_=>absurd ((up_self b 6).symm.trans h1_) (by decide),z_HO272,Q_HA_HO272,fun _=>(by repeat (first|(with_reducible first|exact HI260.out|apply IsS83.alloc|apply IsS83.drewN|apply IsS83.drew|apply IsS83.set_1|refine IsS83.far ?_ Bb.out _)|exact HI260.out)),fun h0_=>absurd ((hoff 9 (by kernel_rfl)).symm.trans h0_) (by decide),Q_X1_,fun h0_=>absurd ((hoff 7 (by kernel_rfl)).symm.trans h0_) (by decide)⟩
  refine steps_cons ?_ ?_
  ·rintro b a w' ⟨v262,v265,v271,adz_v271,m1_,m7_,ha,Q_BK257,Q_HI260,Q_HB,Q_HO263,Q_HO266,Q_HI260_e1,Q_HI260_e3,Q_HO272,Q_HA_HO272,Q_HI260_e6,Q_BK257_e9,Q_X1_,Q_X7_⟩ hb_ hon hoff
   refine ⟨_,rfl,fun K hK=>?_⟩
   have e11:a.tmps[11]?=some (v271):=by rw [ha];exact putSel_on (e:=(4,11,v271)) 2 rfl rfl (hon 4 (by kernel_rfl)) rfl
   have e13:a.tmps[13]?=some (.int .i64 t273):=by rw [ha];exact putSel_on (e:=(6,13,.int .i64 t273)) 3 rfl rfl (hon 6 (by kernel_rfl)) rfl
   replace ha:=Am ha
   have HB:=Am Q_HB
   have Bc:=Am (Q_HO263 (hon 1 (by kernel_rfl)))
   have Be:=Am (Q_HO266 (hon 1 (by kernel_rfl)))
   have Bg:=Am (Q_HO272 (hon 4 (by kernel_rfl)))
   have HA_HO272:=Am (Q_HA_HO272 (hon 4 (by kernel_rfl)))
   have HI260:=Am (Q_HI260_e6 (hon 6 (by kernel_rfl)))
   obtain ⟨c_,hv_⟩:=HA_HO272.out
   rw [hv_] at e11
   refine value_ (w1:=w') (v:=.pointer (some (adz_v271.add (t273).toNat))) (by rfl) rfl ?_ ?_
   ·go_simp
    (try simp only [i64_w])
    try rfl
   refine hK.out _ _ ⟨v262,v265,v271,adz_v271,m1_,(.pointer (some (adz_v271.add (t273).toNat))),(by rw [ha.out];exact putSel_upk 4 hb_ rfl rfl rfl),Q_BK257,fun h0_=>absurd ((hon 1 (by kernel_rfl)).symm.trans h0_) (by decide),Q_HB,Q_HO263,Q_HO266,fun _ h1_=>absurd ((hon 3 (by kernel_rfl)).symm.trans h1_) (by decide),fun _ h1_=>absurd ((hon 6 (by kernel_rfl)).symm.trans h1_) (by decide),Q_HO272,Q_HA_HO272,Q_HI260_e6,Q_BK257_e9,Q_X1_,fun _=>rfl⟩
  refine steps_cons ?_ ?_
  ·rintro b a w' ⟨v262,v265,v271,adz_v271,m1_,m7_,ha,Q_BK257,Q_HI260,Q_HB,Q_HO263,Q_HO266,Q_HI260_e1,Q_HI260_e3,Q_HO272,Q_HA_HO272,Q_HI260_e6,Q_BK257_e9,Q_X1_,Q_X7_⟩ hb_ hon hoff
   refine ⟨_,rfl,fun K hK=>?_⟩
   have e14:a.tmps[14]?=some (m7_):=by rw [ha];exact putSel_on (e:=(7,14,m7_)) 4 rfl rfl (hon 7 (by kernel_rfl)) rfl
   rw [Q_X7_ (hon 7 (by kernel_rfl))] at e14
   replace ha:=Am ha
   have HB:=Am Q_HB
   have Bc:=Am (Q_HO263 (hon 1 (by kernel_rfl)))
   have Be:=Am (Q_HO266 (hon 1 (by kernel_rfl)))
   have Bg:=Am (Q_HO272 (hon 4 (by kernel_rfl)))
   have HA_HO272:=Am (Q_HA_HO272 (hon 4 (by kernel_rfl)))
   have HI260:=Am (Q_HI260_e6 (hon 6 (by kernel_rfl)))
   obtain ⟨c_,hv_⟩:=HA_HO272.out
   have hF_:=Bg.out
   rw [hv_] at hF_
   obtain ⟨ad_,ea_,hx_⟩:=Kd.at_string (rR hF_).2.2 t273 (of_eq_true pi275) (of_eq_true qi275)
   cases ea_
   refine value_ (w1:=w') (v:=.string (rdOf ByteArray.empty y270 t273)) (by rfl) rfl ?_ ?_
   ·go_simp
    (try simp only [i64_w])
    try rfl
   refine hK.out _ _ ⟨v262,v265,v271,adz_v271,m1_,m7_,(by rw [ha.out];exact putSel_upk 5 hb_ rfl rfl rfl),Q_BK257,fun h0_=>absurd ((hon 1 (by kernel_rfl)).symm.trans h0_) (by decide),Q_HB,Q_HO263,Q_HO266,fun _ h1_=>absurd ((hon 3 (by kernel_rfl)).symm.trans h1_) (by decide),fun _ h1_=>absurd ((hon 6 (by kernel_rfl)).symm.trans h1_) (by decide),Q_HO272,Q_HA_HO272,Q_HI260_e6,Q_BK257_e9,Q_X1_,Q_X7_⟩
  refine steps_cons ?_ ?_
  ·rintro b a w' ⟨v262,v265,v271,adz_v271,m1_,m7_,ha,Q_BK257,Q_HI260,Q_HB,Q_HO263,Q_HO266,Q_HI260_e1,Q_HI260_e3,Q_HO272,Q_HA_HO272,Q_HI260_e6,Q_BK257_e9,Q_X1_,Q_X7_⟩ hb_ hon hoff
   refine ⟨_,rfl,fun K hK=>?_⟩
   have e2:a.tmps[2]?=some (.pointer (some ⟨Bd,0,none⟩)):=by rw [ha];exact (putSel_off rfl).trans rfl
   have e8:a.tmps[8]?=some (m1_):=by rw [ha];exact putSel_on (e:=(1,8,m1_)) 0 rfl rfl (hon 1 (by kernel_rfl)) rfl
   rw [Q_X1_ (hon 1 (by kernel_rfl))] at e8
   replace ha:=Am ha
   have Ba:=Am (Q_BK257 hb_)
   have HB:=Am Q_HB
   have Bc:=Am (Q_HO263 (hon 1 (by kernel_rfl)))
   have Be:=Am (Q_HO266 (hon 1 (by kernel_rfl)))
   have HI260:=Am (Q_HI260_e6 (hon 6 (by kernel_rfl)))
   obtain ⟨Ao15,co15,eo15⟩:=rC Bc.out
   (first|subst eo15|(injection eo15 with f1_ f2_ f3_;have f4_:=f1_.symm;have f5_:=f3_.symm;clear f1_ f2_ f3_;subst f4_;subst f5_))
   obtain ⟨Ao17,co17,eo17⟩:=rC Be.out
   (first|subst eo17|(injection eo17 with f1_ f2_ f3_;have f4_:=f1_.symm;have f5_:=f3_.symm;clear f1_ f2_ f3_;subst f4_;subst f5_))
   have hs16:w'.cell? ⟨Bd,0,none⟩=some (.slice none 0 0):=(bC Ba.out 0).trans rfl
   have hfs16:=bF Ba.out 0
   have hs18:w'.cell? ⟨Bd,1,none⟩=some (.slice none 0 0):=(bC Ba.out 1).trans rfl
   have hfs18:=bF Ba.out 1
   refine skip_ (w1:=?_) (by rfl) rfl ?_ ?_
   rotate_left;(go_simp;rfl)
   refine hK.out _ _ ⟨.slice Ao15 t261.length co15,.slice Ao17 t264.length co17,v271,adz_v271,m1_,m7_,(by rw [ha.out];exact putSel_none (v:=undef) rfl),fun h0_=>absurd ((up_self b 9).symm.trans h0_) (by decide),fun h0_=>absurd ((hon 1 (by kernel_rfl)).symm.trans h0_) (by decide),(by repeat (first|(with_reducible first|exact HB.out|apply oA|apply pN|apply o1|refine bS ?_ (IsS83.ge HI260.out)|refine bS ?_ Bf.out)|exact HB.out)),fun _=>(by (with_reducible repeat (first|apply rA|apply rN|apply rD));exact rM (rF (p:=⟨Bd,1,none⟩) (rF (p:=⟨Bd,0,none⟩) (rT Bc.out Ba.out (by decide)) (fun _ hk=>hk.2) (.slice Ao15 t261.length co15)) (fun _ hk=>hk.2) (.slice Ao17 t264.length co17)) (fun _ hk=>trivial)),fun _=>(by (with_reducible repeat (first|apply rA|apply rN|apply rD));exact rM (rF (p:=⟨Bd,1,none⟩) (rF (p:=⟨Bd,0,none⟩) (rT Be.out Ba.out (by decide)) (fun _ hk=>hk.2) (.slice Ao15 t261.length co15)) (fun _ hk=>hk.2) (.slice Ao17 t264.length co17)) (fun _ hk=>trivial)),fun _ h1_=>absurd ((hon 3 (by kernel_rfl)).symm.trans h1_) (by decide),fun _ h1_=>absurd ((hon 6 (by kernel_rfl)).symm.trans h1_) (by decide),fun h0_=>(by (with_reducible repeat (first|apply rA|apply rN|apply rD));exact rM (rF (p:=⟨Bd,1,none⟩) (rF (p:=⟨Bd,0,none⟩) (rT (Q_HO272 h0_) Ba.out (by decide)) (fun _ hk=>hk.2) (.slice Ao15 t261.length co15)) (fun _ hk=>hk.2) (.slice Ao17 t264.length co17)) (fun _ hk=>hk.1)),Q_HA_HO272,fun _=>(by repeat (first|(with_reducible first|exact HI260.out|apply IsS83.alloc|apply IsS83.drewN|apply IsS83.drew|apply IsS83.set_1|refine IsS83.far ?_ Bb.out _)|exact HI260.out)),fun _=>(by (with_reducible repeat (first|refine bN ?_ _|refine bD ?_|refine bA ?_ _));refine bT (cs:=#[.slice Ao15 t261.length co15,.slice none 0 0]) ?_ 1 _ rfl;(with_reducible repeat (first|refine bN ?_ _|refine bD ?_|refine bA ?_ _));refine bT (cs:=#[.slice none 0 0,.slice none 0 0]) ?_ 0 _ rfl;(with_reducible repeat (first|refine bN ?_ _|refine bD ?_|refine bA ?_ _));exact Ba.out),Q_X1_,Q_X7_⟩
  refine steps_cons ?_ ?_
  ·rintro b a w' ⟨v262,v265,v271,adz_v271,m1_,m7_,ha,Q_BK257,Q_HI260,Q_HB,Q_HO263,Q_HO266,Q_HI260_e1,Q_HI260_e3,Q_HO272,Q_HA_HO272,Q_HI260_e6,Q_BK257_e9,Q_X1_,Q_X7_⟩ hb_ hon hoff
   refine ⟨_,rfl,fun K hK=>?_⟩
   have e15:a.tmps[15]?=some (.string (rdOf ByteArray.empty y270 t273)):=by rw [ha];exact putSel_on (e:=(8,15,.string (rdOf ByteArray.empty y270 t273))) 5 rfl rfl (hon 8 (by kernel_rfl)) rfl
   replace ha:=Am ha
   have HB:=Am Q_HB
   have Bc:=Am (Q_HO263 (hon 1 (by kernel_rfl)))
   have Be:=Am (Q_HO266 (hon 1 (by kernel_rfl)))
   have Bg:=Am (Q_HO272 (hon 4 (by kernel_rfl)))
   have HA_HO272:=Am (Q_HA_HO272 (hon 4 (by kernel_rfl)))
   have HI260:=Am (Q_HI260_e6 (hon 6 (by kernel_rfl)))
   have Ba:=Am (Q_BK257_e9 (hon 9 (by kernel_rfl)))
   refine value_ (w1:=w') (v:=.string (rdOf ByteArray.empty y270 t273)) (by rfl) rfl ?_ ?_
   ·go_simp
    (try simp only [i64_w])
    try rfl
   refine hK.out _ _ ⟨v262,v265,v271,adz_v271,m1_,m7_,(by rw [ha.out];exact putSel_upk 6 hb_ rfl rfl rfl),fun h0_=>absurd ((hon 9 (by kernel_rfl)).symm.trans h0_) (by decide),fun h0_=>absurd ((hon 1 (by kernel_rfl)).symm.trans h0_) (by decide),Q_HB,Q_HO263,Q_HO266,fun _ h1_=>absurd ((hon 3 (by kernel_rfl)).symm.trans h1_) (by decide),fun _ h1_=>absurd ((hon 6 (by kernel_rfl)).symm.trans h1_) (by decide),Q_HO272,Q_HA_HO272,Q_HI260_e6,Q_BK257_e9,Q_X1_,Q_X7_⟩
  exact steps_nil
 rintro b a w21 hall ⟨v262,v265,v271,adz_v271,m1_,m7_,ha,Q_BK257,Q_HI260,Q_HB,Q_HO263,Q_HO266,Q_HI260_e1,Q_HI260_e3,Q_HO272,Q_HA_HO272,Q_HI260_e6,Q_BK257_e9,Q_X1_,Q_X7_⟩
 clear Ba HB HI260
 have hb1_:=hall 1 (by kernel_rfl)
 have hb3_:=hall 3 (by kernel_rfl)
 have hb4_:=hall 4 (by kernel_rfl)
 have hb6_:=hall 6 (by kernel_rfl)
 have hb7_:=hall 7 (by kernel_rfl)
 have hb8_:=hall 8 (by kernel_rfl)
 have hb9_:=hall 9 (by kernel_rfl)
 have hb10_:=hall 10 (by kernel_rfl)
 subst ha
 obtain rfl:=Q_X1_ hb1_
 obtain rfl:=Q_X7_ hb7_
 simp only [putSel,hb1_,hb3_,hb4_,hb6_,hb7_,hb8_,hb9_,hb10_,if_true,Act.put,lA,lZ,lS]
 clear Q_BK257
 clear Q_HI260
 have HB:=Am Q_HB
 clear Q_HB
 have Bc:=Am (Q_HO263 hb1_)
 clear Q_HO263
 have Be:=Am (Q_HO266 hb1_)
 clear Q_HO266
 clear Q_HI260_e1
 clear Q_HI260_e3
 have Bg:=Am (Q_HO272 hb4_)
 clear Q_HO272
 have HA_HO272:=Am (Q_HA_HO272 hb4_)
 clear Q_HA_HO272
 have HI260:=Am (Q_HI260_e6 hb6_)
 clear Q_HI260_e6
 have Ba:=Am (Q_BK257_e9 hb9_)
 clear Q_BK257_e9
 clear hall hb1_ hb3_ hb4_ hb6_ hb7_ hb8_ hb9_ hb10_
 obtain ⟨co22,eo22⟩:=HA_HO272.out
 clear HA_HO272
 subst eo22
 try go_wp2
 refine bodyPost_ret (results_ct rfl _ _ Bd 26 #[v262,v265] (0,0) _ rfl (bL Ba.out) Try.underlying26 rfl (by kernel_rfl)) rfl ?_
 exact ⟨_,_,by first|rfl|(simp [errW_none,errW_some] <;> rfl)|(simp [*,errW_none,errW_some] <;> rfl),by (with_reducible repeat (first|apply rA|apply rN|apply rD));exact rM Bc.out (fun _ hk=>trivial),by (with_reducible repeat (first|apply rA|apply rN|apply rD));exact Be.out,by repeat (first|(with_reducible first|exact HB.out|apply oA|apply pN|apply o1|refine bS ?_ (IsS83.ge HI260.out)|refine bS ?_ Bf.out)|exact HB.out)⟩
end Go.Proofs.Ytpdfkbggaihfpaa.PFnPagesTake
