/- Proved here, without a condition beyond those that each theorem states: what the Go functions named below do is what the plain functions of the same names say. Written by xprint.py, a program of this session. -/
import Derived.Test.YtpdfkbggaihfpaaPFnPagesTakex0
import Derived.Test.YtpdfkbggaihfpaaPFnPagesTakex8
import Derived.Test.YtpdfkbggaihfpaaPFnPagesTakex12
import Derived.Test.YtpdfkbggaihfpaaPFnPagesTakex13
namespace Go.Proofs.Ytpdfkbggaihfpaa.PFnPagesTake
open Go.RowKit Go.Proofs.YtpdfkbggaihfpaaW.PrintWords Go.Proofs.YtpdfkbggaihfpaaW.PrintLast Go.Proofs.YtpdfkbggaihfpaaW.PrintMore
attribute [local go_sem] max2_int min2_int max_two min_two max_three min_three max_four min_four   -- for this text's walks alone
set_option linter.unusedVariables false
set_option linter.unusedSimpArgs false

attribute [local go_sem ↓] isSome_setCell_
/-! ### spec_PagesTake: function 31 -/
def spec_PagesTake.j0 : Nat → ByteArray → Bool → List ByteArray → List Int → Option (List ByteArray × List Int × Int × Bool)
|0, _, _, _, _ => none
|k + 1, x1, x16, x300000, x300001 => if x16 = true then (some (([] : List ByteArray), ([] : List Int), (-1), false)) else ((spec_l1Copy.f x300000 x300001).bind fun bt302 => ((spec_l1Take.f k bt302.1 bt302.2 x1).bind fun bt308 => (if bt308.2.2 < 0 then (some (([] : List ByteArray), ([] : List Int), (-1), false)) else (some (bt308.1, bt308.2.1, bt308.2.2, true)))))
def spec_PagesTake.f (k : Nat) (l0_0 : List ByteArray) (l0_1 : List Int) (a1 : ByteArray) : Option (List ByteArray × List Int × Int × Bool) := (spec_PagesOk.f k l0_0 l0_1).bind fun t301 => (if t301 = true then (spec_PagesTake.j0 k a1 ((a1.size : Int) != 4) l0_0 l0_1) else (spec_PagesTake.j0 k a1 true l0_0 l0_1))
theorem spec_PagesTake.mono_l : ∀ k, (∀ y0 y1 y2 y3, LeO (spec_PagesTake.j0 k y0 y1 y2 y3) (spec_PagesTake.j0 (k + 1) y0 y1 y2 y3))
|0 => fun _ _ _ _ r h => by simp [spec_PagesTake.j0] at h
|k + 1 => by
  have ih0 := spec_PagesTake.mono_l k
  ·intro y0 y1 y2 y3
   unfold spec_PagesTake.j0
   repeat' first
  |(with_reducible exact ih0 _ _ _ _)
  |(with_reducible exact spec_PagesOk.mono _ _ _)
  |(with_reducible exact spec_l1Take.mono _ _ _ _)
  |(with_reducible exact LeO.refl _)
  |(with_reducible exact LeO.none _)
  |(with_reducible refine LeO.ite ?_ ?_)
  |(with_reducible refine LeO.bind ?_ (fun _ => ?_))
  |exact ih0 _ _ _ _
  |exact spec_PagesOk.mono _ _ _
  |exact spec_l1Take.mono _ _ _ _
  |exact LeO.none _
  |refine LeO.ite ?_ ?_
  |refine LeO.bind ?_ (fun _ => ?_)
theorem spec_PagesTake.mono : ∀ a0 a1 a2 k, LeO (spec_PagesTake.f k a0 a1 a2) (spec_PagesTake.f (k + 1) a0 a1 a2) := by
 intro a0 a1 a2 k
 have ih0 := spec_PagesTake.mono_l k
 unfold spec_PagesTake.f
 repeat' first
  |(with_reducible exact ih0 _ _ _ _)
  |(with_reducible exact spec_PagesOk.mono _ _ _)
  |(with_reducible exact spec_l1Take.mono _ _ _ _)
  |(with_reducible exact LeO.refl _)
  |(with_reducible exact LeO.none _)
  |(with_reducible refine LeO.ite ?_ ?_)
  |(with_reducible refine LeO.bind ?_ (fun _ => ?_))
  |exact ih0 _ _ _ _
  |exact spec_PagesOk.mono _ _ _
  |exact spec_l1Take.mono _ _ _ _
  |exact LeO.none _
  |refine LeO.ite ?_ ?_
  |refine LeO.bind ?_ (fun _ => ?_)
set_option maxHeartbeats 2000000 in
set_option maxRecDepth 100000 in
theorem spec_PagesTake.calls (k:Nat) (A0_0:Option Addr) (c0_0:Nat) (l0_0:List ByteArray) (A0_1:Option Addr) (c0_1:Nat) (l0_1:List Int) (a1:ByteArray) (r1:List ByteArray) (r2:List Int) (r3:Int) (r4:Bool) (w:World) (hr0_0:Kd.C Kd.string w A0_0 l0_0.length l0_0) (hc0_0:l0_0.length≤c0_0) (hr0_1:Kd.C (Kd.int .i64) w A0_1 l0_1.length l0_1) (hc0_1:l0_1.length≤c0_1) (h:spec_PagesTake.f k l0_0 l0_1 a1=some (r1,r2,r3,r4)) :
  Calls Try.prog 31 #[.agg #[.slice A0_0 l0_0.length c0_0,.slice A0_1 l0_1.length c0_1],.string a1] w fun e w'=>∃ v0_ v1_:Value,e=.returned (.tuple #[.agg #[v0_,v1_],.int .i64 r3,.bool r4])∧Kd.R Kd.string 9 w' w.heap.size (fun _=>True) v0_ r1∧Kd.R (Kd.int .i64) 3 w' w.heap.size (fun _=>True) v1_ r2∧Below w.heap.size w w':=by
 have hu26:=Try.underlying26
 have HR0_0:=Am hr0_0
 have HC0_0:=Am hc0_0
 clear hr0_0 hc0_0
 have HR0_1:=Am hr0_1
 have HC0_1:=Am hc0_1
 clear hr0_1 hc0_1
 have HB:=Am (bJ w.heap.size w)
 have H:((spec_PagesOk.f k l0_0 l0_1).bind fun t301=>(if t301=true then (spec_PagesTake.j0 k a1 ((a1.size:Int) != 4) l0_0 l0_1) else (spec_PagesTake.j0 k a1 true l0_0 l0_1)))=some (r1,r2,r3,r4):=h
 clear h
 have HC3:=Am H
 clear H
 go_enter Try.func31,Try.ntmps31
 go_upto_region 1 with (first|((with_reducible refine gD (N:=2) rfl ?_);(try (refine gate_guard (by rfl) ?_;dsimp only));refine bI ?hg (N:=2) ?hd (cs:=#[.slice A0_0 l0_0.length c0_0,.slice A0_1 l0_1.length c0_1]) (t:=26) ?hr ?_;(case hd=>rfl);(case hg=>rfl);(case hr=>first|(go_simp;done)|(go_simp;rfl));intro Bd hg w4 hbox hb;have n0_:=Am (bP (by repeat (first|(with_reducible first|exact HB.out|apply oA|apply pN|apply o1)|exact HB.out)) hb);have n1_:=Am (hbox);have n2_:=Am ((by rw [hg];exact (bZ (by repeat (first|(with_reducible first|exact HB.out|apply oA|apply pN|apply o1)|exact HB.out))):w.heap.size≤Bd));have n3_:=Am ((by rw [hg];exact (bZ (by repeat (first|(with_reducible first|exact HB.out|apply oA|apply pN|apply o1)|exact HB.out))):w.heap.size≤Bd));clear HB;revert n0_ n1_ n2_ n3_;intro HB Ba B4 Be;clear hb hbox hg)|((with_reducible refine gD (N:=4) rfl ?_);(try (refine gate_guard (by rfl) ?_;dsimp only));refine bI ?hg (N:=4) ?hd (cs:=#[.slice none 0 0,.slice none 0 0]) (t:=26) ?hr ?_;(case hd=>rfl);(case hg=>rfl);(case hr=>first|(go_simp;done)|(go_simp;rfl));intro Bc hg w5 hbox hb;have n0_:=Am (bX Ba.out hb);have n1_:=Am (bP (by repeat (first|(with_reducible first|exact HB.out|apply oA|apply pN|apply o1|refine bS ?_ Be.out)|exact HB.out)) hb);have n2_:=Am (hbox);have n3_:=Am ((by rw [hg];exact (bZ (by repeat (first|(with_reducible first|exact HB.out|apply oA|apply pN|apply o1|refine bS ?_ Be.out)|exact HB.out))):w.heap.size≤Bc));have n4_:=Am ((by rw [hg];exact (bZ (by repeat (first|(with_reducible first|exact HB.out|apply oA|apply pN|apply o1|refine bS ?_ Be.out)|exact HB.out))):w.heap.size≤Bc));have n5_:=Am ((nL Ba.out hg));have n6_:=Am ((nG Ba.out hg));clear Ba HB;revert n0_ n1_ n2_ n3_ n4_ n5_ n6_;intro Ba HB Bb B5 Bf Bm Bn;clear hb hbox hg))
 (try simp only [Act.put,lA,lZ,lS])
 go_cut [16] (fun v16 wc=>∃ (kq:Nat) (x16_2:Bool),v16=.bool x16_2∧Aside0 (spec_PagesTake.j0 kq a1 x16_2 l0_0 l0_1=some (r1,r2,r3,r4))∧Aside0 (kq≤k)∧Aside0 (wc.heap[Bd]?=some (.cells #[(.slice A0_0 l0_0.length c0_0),(.slice A0_1 l0_1.length c0_1)] 26 (0,0)))∧Aside0 (wc.heap[Bc]?=some (.cells #[(.slice none 0 0),(.slice none 0 0)] 26 (0,0)))∧Aside0 (Below w.heap.size w wc))
 case first =>
  have H:=HC3.out
  clear HC3
  replace H:=oC H
  obtain ⟨t301,A60,H⟩:=H
  replace H:(if t301=true then (spec_PagesTake.j0 k a1 ((a1.size:Int) != 4) l0_0 l0_1) else (spec_PagesTake.j0 k a1 true l0_0 l0_1))=some (r1,r2,r3,r4):=H
  have A6:=Am A60
  clear A60
  by_cases c7:t301=true
  ·subst c7
   have H1:(spec_PagesTake.j0 k a1 ((a1.size:Int) != 4) l0_0 l0_1)=some (r1,r2,r3,r4):=by rw [if_pos rfl] at H;exact H
   clear H
   have H:=H1
   clear H1
   have H':=Am H
   clear H
   have Dm:=Bm.out
   have Dn:=Bn.out
   have Bx:=cz0 Ba.out
   have By:=cz1 Ba.out
   have Bz:=bF Ba.out 0
   have BA:=bF Ba.out 1
   go_wp2_with (first|((with_reducible refine gC (f:=42) rfl ?_);refine goesL_ (some 10) rfl rfl Try.func42 (by kernel_rfl) rfl #[.agg #[.slice A0_0 l0_0.length c0_0,.slice A0_1 l0_1.length c0_1]] rfl (by (try simp only [lM,lC,lN]);first|done|rfl|(simp only [lD,lT];rfl)) ?_;(with_reducible refine (spec_PagesOk.calls k _ _ l0_0 _ _ l0_1 true _ ?side1 ?side2 ?side3 ?side4 A6.out).mono ?_);(case side1=>exact cL (cB HR0_0.out HB.out));(case side2=>exact HC0_0.out);(case side3=>exact cL (cB HR0_1.out HB.out));(case side4=>exact HC0_1.out);rintro e w10 ⟨rfl,hb⟩;refine ⟨_,rfl,?_⟩;have n0_:=Am (bX Ba.out hb);have n1_:=Am (bX Bb.out hb);have n2_:=Am (bP (by repeat (first|(with_reducible first|exact HB.out|apply oA|apply pN|apply o1|refine bS ?_ Be.out|refine bS ?_ Bf.out)|exact HB.out)) hb);clear Ba Bb HB;revert n0_ n1_ n2_;intro Ba Bb HB;(try clear hb);(try clear hb2);(try clear hk);(try clear hi)))
   go_meet
   case rel=>exact ⟨_,(((a1.size:Int) != 4)),(by first|rfl|(simp;done)|(simp [*];done)),H',⟨by first|omega|exact nR _⟩,⟨by (with_reducible repeat (first|refine bN ?_ _|refine bD ?_|refine bA ?_ _));exact Ba.out⟩,⟨by (with_reducible repeat (first|refine bN ?_ _|refine bD ?_|refine bA ?_ _));exact Bb.out⟩,⟨by repeat (first|(with_reducible first|exact HB.out|apply oA|apply pN|apply o1|refine bS ?_ Be.out|refine bS ?_ Bf.out)|exact HB.out)⟩⟩
  replace c7:=Bool.eq_false_iff.mpr c7
  subst c7
  have H1:(spec_PagesTake.j0 k a1 true l0_0 l0_1)=some (r1,r2,r3,r4):=by rw [if_neg (show ¬ (false=true) by decide)] at H;exact H
  clear H
  have H:=H1
  clear H1
  have H':=Am H
  clear H
  have B6:=Bm.out
  have B7:=Bn.out
  have Bt:=cz0 Ba.out
  have Bu:=cz1 Ba.out
  have Bv:=bF Ba.out 0
  have Bw:=bF Ba.out 1
  go_wp2_with (first|((with_reducible refine gC (f:=42) rfl ?_);refine goesL_ (some 10) rfl rfl Try.func42 (by kernel_rfl) rfl #[.agg #[.slice A0_0 l0_0.length c0_0,.slice A0_1 l0_1.length c0_1]] rfl (by (try simp only [lM,lC,lN]);first|done|rfl|(simp only [lD,lT];rfl)) ?_;(with_reducible refine (spec_PagesOk.calls k _ _ l0_0 _ _ l0_1 false _ ?side1 ?side2 ?side3 ?side4 A6.out).mono ?_);(case side1=>exact cL (cB HR0_0.out HB.out));(case side2=>exact HC0_0.out);(case side3=>exact cL (cB HR0_1.out HB.out));(case side4=>exact HC0_1.out);rintro e w13 ⟨rfl,hb⟩;refine ⟨_,rfl,?_⟩;have n0_:=Am (bX Ba.out hb);have n1_:=Am (bX Bb.out hb);have n2_:=Am (bP (by repeat (first|(with_reducible first|exact HB.out|apply oA|apply pN|apply o1|refine bS ?_ Be.out|refine bS ?_ Bf.out)|exact HB.out)) hb);clear Ba Bb HB;revert n0_ n1_ n2_;intro Ba Bb HB;(try clear hb);(try clear hb2);(try clear hk);(try clear hi)))
  go_meet
  case rel=>exact ⟨_,(true),(by first|rfl|(simp;done)|(simp [*];done)),H',⟨by first|omega|exact nR _⟩,⟨by (with_reducible repeat (first|refine bN ?_ _|refine bD ?_|refine bA ?_ _));exact Ba.out⟩,⟨by (with_reducible repeat (first|refine bN ?_ _|refine bD ?_|refine bA ?_ _));exact Bb.out⟩,⟨by repeat (first|(with_reducible first|exact HB.out|apply oA|apply pN|apply o1|refine bS ?_ Be.out|refine bS ?_ Bf.out)|exact HB.out)⟩⟩
 case rest =>
  clear HC3
  try clear c1
  try clear p2
  try clear c3
  try clear c4
  try clear c7
  try clear c8
  try clear c11
  try clear Bt
  try clear Bu
  try clear Bx
  try clear By
  try clear Bv
  try clear Bw
  try clear Bz
  try clear BA
  obtain ⟨kq,x16_2,rfl,HA,Do,Ba,Bb,HB⟩:=hcut
  cases kq with
 |zero=>exact absurd HA.out (by simp [spec_PagesTake.j0])
 |succ kj2 =>
   have H:=HA.out
   clear HA
   simp only [spec_PagesTake.j0] at H
   by_cases c14:x16_2=true
   ·subst c14
    have H1:(some (([]:List ByteArray),([]:List Int),(-1),false))=some (r1,r2,r3,r4):=by rw [if_pos rfl] at H;exact H
    clear H
    have H:=H1
    clear H1
    simp only [Option.some.injEq,Prod.mk.injEq] at H
    obtain ⟨rfl,rfl,rfl,rfl⟩:=H
    have B8:=Bn.out
    have B9:=Bm.out
    have BC:=cz0 Bb.out
    have BD:=cz1 Bb.out
    have BE:=bF Bb.out 0
    have BF:=bF Bb.out 1
    go_wp2
    refine bodyPost_ret (results_ctt rfl _ _ Bc 26 #[.slice none 0 0,.slice none 0 0] (0,0) _ rfl (by (with_reducible repeat (first|refine bN ?_ _|refine bD ?_|refine bA ?_ _));refine bT (cs:=#[.slice none 0 0,.slice none 0 0]) ?_ 1 _ rfl;(with_reducible repeat (first|refine bN ?_ _|refine bD ?_|refine bA ?_ _));refine bT (cs:=#[.slice none 0 0,.slice none 0 0]) ?_ 0 _ rfl;(with_reducible repeat (first|refine bN ?_ _|refine bD ?_|refine bA ?_ _));exact Bb.out) Try.underlying26 rfl (by kernel_rfl)) rfl ?_
    exact ⟨_,_,by first|rfl|(simp [errW_none,errW_some] <;> rfl)|(simp [*,errW_none,errW_some] <;> rfl),by first|exact Kd.R_nil _ _ _ _ _|exact Kd.N_nil _ _ _ _ _|exact Kd.V_nil _ _ _ _ _|exact Kd.Q_nil _ _ _ _ _|exact Kd.S_nil _ _ _ _ _,by first|exact Kd.R_nil _ _ _ _ _|exact Kd.N_nil _ _ _ _ _|exact Kd.V_nil _ _ _ _ _|exact Kd.Q_nil _ _ _ _ _|exact Kd.S_nil _ _ _ _ _,by repeat (first|(with_reducible first|exact HB.out|apply oA|apply pN|apply o1|refine bS ?_ Be.out|refine bS ?_ Bf.out)|exact HB.out)⟩
   replace c14:=Bool.eq_false_iff.mpr c14
   subst c14
   have H1:((spec_l1Copy.f l0_0 l0_1).bind fun bt302=>((spec_l1Take.f kj2 bt302.1 bt302.2 a1).bind fun bt308=>(if bt308.2.2<0 then (some (([]:List ByteArray),([]:List Int),(-1),false)) else (some (bt308.1,bt308.2.1,bt308.2.2,true)))))=some (r1,r2,r3,r4):=by rw [if_neg (show ¬ (false=true) by decide)] at H;exact H
   clear H
   have H:=H1
   clear H1
   replace H:=oC H
   obtain ⟨⟨t302,t305⟩,A170,H⟩:=H
   replace H:((spec_l1Take.f kj2 t302 t305 a1).bind fun bt308=>(if bt308.2.2<0 then (some (([]:List ByteArray),([]:List Int),(-1),false)) else (some (bt308.1,bt308.2.1,bt308.2.2,true))))=some (r1,r2,r3,r4):=H
   have A17:=Am A170
   clear A170
   replace H:=oC H
   obtain ⟨⟨t308,t311,t314⟩,A180,H⟩:=H
   replace H:(if t314<0 then (some (([]:List ByteArray),([]:List Int),(-1),false)) else (some (t308,t311,t314,true)))=some (r1,r2,r3,r4):=H
   have A18:=Am A180
   clear A180
   by_cases c19:t314<0
   ·rw [if_pos c19] at H
    have c19b0:decide (t314<0)=true:=dT c19
    clear c19
    simp only [Option.some.injEq,Prod.mk.injEq] at H
    obtain ⟨rfl,rfl,rfl,rfl⟩:=H
    have Da:=Bm.out
    have Db:=Bn.out
    have BG:=cz0 Ba.out
    have BH:=cz1 Ba.out
    have BI:=bF Ba.out 0
    have BJ:=bF Ba.out 1
    go_wp2_with (first|((with_reducible refine gC (f:=52) rfl ?_);refine goesL_ (some 20) rfl rfl Try.func52 (by kernel_rfl) rfl #[.agg #[.slice A0_0 l0_0.length c0_0,.slice A0_1 l0_1.length c0_1]] rfl (by (try simp only [lM,lC,lN]);first|done|rfl|(simp only [lD,lT];rfl)) ?_;(with_reducible refine (spec_l1Copy.calls _ _ l0_0 _ _ l0_1 t302 t305 _ ?side1 ?side2 ?side3 ?side4 A17.out).mono ?_);(case side1=>exact cL (cB HR0_0.out HB.out));(case side2=>exact HC0_0.out);(case side3=>exact cL (cB HR0_1.out HB.out));(case side4=>exact HC0_1.out);rintro e w22 ⟨v303,v306,rfl,ho0,ho1,hb⟩;refine ⟨_,rfl,?_⟩;have n0_:=Am (rW ho0 (bZ (by repeat (first|(with_reducible first|exact HB.out|apply oA|apply pN|apply o1|refine bS ?_ Be.out|refine bS ?_ Bf.out)|exact HB.out))));have n1_:=Am (rW ho1 (bZ (by repeat (first|(with_reducible first|exact HB.out|apply oA|apply pN|apply o1|refine bS ?_ Be.out|refine bS ?_ Bf.out)|exact HB.out))));have n2_:=Am (bX Ba.out hb);have n3_:=Am (bX Bb.out hb);have n4_:=Am (bP (by repeat (first|(with_reducible first|exact HB.out|apply oA|apply pN|apply o1|refine bS ?_ Be.out|refine bS ?_ Bf.out)|exact HB.out)) hb);clear Ba Bb HB;revert n0_ n1_ n2_ n3_ n4_;intro Bh Bi Ba Bb HB;(try clear hb);(try clear hb2);(try clear hk);(try clear hi);(try clear ho0);(try clear ho1);obtain ⟨Ao23,co23,eo23⟩:=rC Bh.out;subst eo23;obtain ⟨Ao24,co24,eo24⟩:=rC Bi.out;subst eo24)|((with_reducible refine gC (f:=59) rfl ?_);refine goesL_ (some 22) rfl rfl Try.func59 (by kernel_rfl) rfl #[.agg #[.slice Ao23 t302.length co23,.slice Ao24 t305.length co24],.string a1] rfl (by (try simp only [lM,lC,lN]);first|done|rfl|(simp only [lD,lT];rfl)) ?_;(with_reducible refine (spec_l1Take.calls kj2 (fun k_=>some k_=(.slice Ao23 t302.length co23:Value).ownBlock) (.slice Ao23 t302.length co23) t302 (fun k_=>some k_=(.slice Ao24 t305.length co24:Value).ownBlock) (.slice Ao24 t305.length co24) t305 a1 t308 t311 t314 w _ ?side1 ?side2 ?side3 A18.out).mono ?_);(case side1=>repeat (first|(with_reducible first|exact HB.out|apply oA|apply pN|apply o1|refine bS ?_ Be.out|refine bS ?_ Bf.out)|exact HB.out));(case side2=>exact Kd.R_tight rfl Bh.out);(case side3=>exact Kd.R_tight rfl Bi.out);rintro e w25 ⟨v309,v312,rfl,ho0,ho1,hb,hkp⟩;refine ⟨_,rfl,?_⟩;have n0_:=Am (blk_kept (bL Ba.out) hkp (fun hs_=>Or.elim hs_ (fun e_=>(fun e_=>(rE Bh.out Ba.out (by decide)) e_) e_) (fun e_=>(fun e_=>(rE Bi.out Ba.out (by decide)) e_) e_)));have n1_:=Am (blk_kept (bL Bb.out) hkp (fun hs_=>Or.elim hs_ (fun e_=>(fun e_=>(rE Bh.out Bb.out (by decide)) e_) e_) (fun e_=>(fun e_=>(rE Bi.out Bb.out (by decide)) e_) e_)));have n2_:=Am (rM (ok':=fun k_=>True) ho0 (fun k_ hk_=>trivial));have n3_:=Am (rM (ok':=fun k_=>True) ho1 (fun k_ hk_=>trivial));have n4_:=Am (hb);clear Ba Bb HB Bh Bi;revert n0_ n1_ n2_ n3_ n4_;intro Ba Bb Bk Bl HB;(try clear hb);(try clear hkp);(try clear ho0);(try clear ho1))|((with_reducible refine gD (N:=7) rfl ?_);(try (refine gate_guard (by rfl) ?_;dsimp only));refine bI ?hg (N:=7) ?hd (cs:=#[.slice none 0 0,.slice none 0 0]) (t:=26) ?hr ?_;(case hd=>rfl);(case hg=>rfl);(case hr=>first|(go_simp;done)|(go_simp;rfl));intro Bg hg w26 hbox hb;have n0_:=Am (rB (rL Bk.out) hb);have n1_:=Am (rB (rL Bl.out) hb);have n2_:=Am (bX Ba.out hb);have n3_:=Am (bX Bb.out hb);have n4_:=Am (bP (by repeat (first|(with_reducible first|exact HB.out|apply oA|apply pN|apply o1|refine bS ?_ Be.out|refine bS ?_ Bf.out)|exact HB.out)) hb);have n5_:=Am (hbox);have n6_:=Am ((by rw [hg];exact (bZ (by repeat (first|(with_reducible first|exact HB.out|apply oA|apply pN|apply o1|refine bS ?_ Be.out|refine bS ?_ Bf.out)|exact HB.out))):w.heap.size≤Bg));have n7_:=Am ((by rw [hg];exact (bZ (by repeat (first|(with_reducible first|exact HB.out|apply oA|apply pN|apply o1|refine bS ?_ Be.out|refine bS ?_ Bf.out)|exact HB.out))):w.heap.size≤Bg));have n8_:=Am ((nL Ba.out hg));have n9_:=Am ((nG Ba.out hg));have n10_:=Am ((nL Bb.out hg));have n11_:=Am ((nG Bb.out hg));clear Bk Bl Ba Bb HB;revert n0_ n1_ n2_ n3_ n4_ n5_ n6_ n7_ n8_ n9_ n10_ n11_;intro Bk Bl Ba Bb HB Bj BB Bs Bp Bq Bo Br;clear hb hbox hg;obtain ⟨Ao27,co27,eo27⟩:=rC Bk.out;subst eo27;have Dc:=Bq.out;have Dd:=Bp.out;have De:=Br.out;have Df:=Bo.out;have BK:=cz0 Bj.out;have BL:=cz1 Bj.out;have BM:=bF Bj.out 0;have BN:=bF Bj.out 1;obtain ⟨Ao31,co31,eo31⟩:=rC Bl.out;subst eo31;have BO:=cz0 Bb.out;have BP:=cz1 Bb.out;have BQ:=bF Bb.out 0;have BR:=bF Bb.out 1))
    refine bodyPost_ret (results_ctt rfl _ _ Bc 26 #[.slice none 0 0,.slice none 0 0] (0,0) _ rfl (by (with_reducible repeat (first|refine bN ?_ _|refine bD ?_|refine bA ?_ _));refine bT (cs:=#[.slice none 0 0,.slice none 0 0]) ?_ 1 _ rfl;(with_reducible repeat (first|refine bN ?_ _|refine bD ?_|refine bA ?_ _));refine bT (cs:=#[.slice none 0 0,.slice none 0 0]) ?_ 0 _ rfl;(with_reducible repeat (first|refine bN ?_ _|refine bD ?_|refine bA ?_ _|refine bE ?_ Bo.out _));exact Bb.out) Try.underlying26 rfl (by kernel_rfl)) rfl ?_
    exact ⟨_,_,by first|rfl|(simp [errW_none,errW_some] <;> rfl)|(simp [*,errW_none,errW_some] <;> rfl),by first|exact Kd.R_nil _ _ _ _ _|exact Kd.N_nil _ _ _ _ _|exact Kd.V_nil _ _ _ _ _|exact Kd.Q_nil _ _ _ _ _|exact Kd.S_nil _ _ _ _ _,by first|exact Kd.R_nil _ _ _ _ _|exact Kd.N_nil _ _ _ _ _|exact Kd.V_nil _ _ _ _ _|exact Kd.Q_nil _ _ _ _ _|exact Kd.S_nil _ _ _ _ _,by repeat (first|(with_reducible first|exact HB.out|apply oA|apply pN|apply o1|refine bS ?_ Be.out|refine bS ?_ Bf.out|refine bS ?_ Bs.out)|exact HB.out)⟩
   rw [if_neg c19] at H
   have c19b0:decide (t314<0)=false:=dF c19
   clear c19
   simp only [Option.some.injEq,Prod.mk.injEq] at H
   obtain ⟨rfl,rfl,rfl,rfl⟩:=H
   have Dg:=Bm.out
   have Dh:=Bn.out
   have BS:=cz0 Ba.out
   have BT:=cz1 Ba.out
   have BU:=bF Ba.out 0
   have BV:=bF Ba.out 1
   go_wp2_with (first|((with_reducible refine gC (f:=52) rfl ?_);refine goesL_ (some 20) rfl rfl Try.func52 (by kernel_rfl) rfl #[.agg #[.slice A0_0 l0_0.length c0_0,.slice A0_1 l0_1.length c0_1]] rfl (by (try simp only [lM,lC,lN]);first|done|rfl|(simp only [lD,lT];rfl)) ?_;(with_reducible refine (spec_l1Copy.calls _ _ l0_0 _ _ l0_1 t302 t305 _ ?side1 ?side2 ?side3 ?side4 A17.out).mono ?_);(case side1=>exact cL (cB HR0_0.out HB.out));(case side2=>exact HC0_0.out);(case side3=>exact cL (cB HR0_1.out HB.out));(case side4=>exact HC0_1.out);rintro e w35 ⟨v303,v306,rfl,ho0,ho1,hb⟩;refine ⟨_,rfl,?_⟩;have n0_:=Am (rW ho0 (bZ (by repeat (first|(with_reducible first|exact HB.out|apply oA|apply pN|apply o1|refine bS ?_ Be.out|refine bS ?_ Bf.out)|exact HB.out))));have n1_:=Am (rW ho1 (bZ (by repeat (first|(with_reducible first|exact HB.out|apply oA|apply pN|apply o1|refine bS ?_ Be.out|refine bS ?_ Bf.out)|exact HB.out))));have n2_:=Am (bX Ba.out hb);have n3_:=Am (bX Bb.out hb);have n4_:=Am (bP (by repeat (first|(with_reducible first|exact HB.out|apply oA|apply pN|apply o1|refine bS ?_ Be.out|refine bS ?_ Bf.out)|exact HB.out)) hb);clear Ba Bb HB;revert n0_ n1_ n2_ n3_ n4_;intro Bh Bi Ba Bb HB;(try clear hb);(try clear hb2);(try clear hk);(try clear hi);(try clear ho0);(try clear ho1);obtain ⟨Ao36,co36,eo36⟩:=rC Bh.out;subst eo36;obtain ⟨Ao37,co37,eo37⟩:=rC Bi.out;subst eo37)|((with_reducible refine gC (f:=59) rfl ?_);refine goesL_ (some 22) rfl rfl Try.func59 (by kernel_rfl) rfl #[.agg #[.slice Ao36 t302.length co36,.slice Ao37 t305.length co37],.string a1] rfl (by (try simp only [lM,lC,lN]);first|done|rfl|(simp only [lD,lT];rfl)) ?_;(with_reducible refine (spec_l1Take.calls kj2 (fun k_=>some k_=(.slice Ao36 t302.length co36:Value).ownBlock) (.slice Ao36 t302.length co36) t302 (fun k_=>some k_=(.slice Ao37 t305.length co37:Value).ownBlock) (.slice Ao37 t305.length co37) t305 a1 t308 t311 t314 w _ ?side1 ?side2 ?side3 A18.out).mono ?_);(case side1=>repeat (first|(with_reducible first|exact HB.out|apply oA|apply pN|apply o1|refine bS ?_ Be.out|refine bS ?_ Bf.out)|exact HB.out));(case side2=>exact Kd.R_tight rfl Bh.out);(case side3=>exact Kd.R_tight rfl Bi.out);rintro e w38 ⟨v309,v312,rfl,ho0,ho1,hb,hkp⟩;refine ⟨_,rfl,?_⟩;have n0_:=Am (blk_kept (bL Ba.out) hkp (fun hs_=>Or.elim hs_ (fun e_=>(fun e_=>(rE Bh.out Ba.out (by decide)) e_) e_) (fun e_=>(fun e_=>(rE Bi.out Ba.out (by decide)) e_) e_)));have n1_:=Am (blk_kept (bL Bb.out) hkp (fun hs_=>Or.elim hs_ (fun e_=>(fun e_=>(rE Bh.out Bb.out (by decide)) e_) e_) (fun e_=>(fun e_=>(rE Bi.out Bb.out (by decide)) e_) e_)));have n2_:=Am (rM (ok':=fun k_=>True) ho0 (fun k_ hk_=>trivial));have n3_:=Am (rM (ok':=fun k_=>True) ho1 (fun k_ hk_=>trivial));have n4_:=Am (hb);clear Ba Bb HB Bh Bi;revert n0_ n1_ n2_ n3_ n4_;intro Ba Bb Bk Bl HB;(try clear hb);(try clear hkp);(try clear ho0);(try clear ho1))|((with_reducible refine gD (N:=7) rfl ?_);(try (refine gate_guard (by rfl) ?_;dsimp only));refine bI ?hg (N:=7) ?hd (cs:=#[.slice none 0 0,.slice none 0 0]) (t:=26) ?hr ?_;(case hd=>rfl);(case hg=>rfl);(case hr=>first|(go_simp;done)|(go_simp;rfl));intro Bg hg w39 hbox hb;have n0_:=Am (rB (rL Bk.out) hb);have n1_:=Am (rB (rL Bl.out) hb);have n2_:=Am (bX Ba.out hb);have n3_:=Am (bX Bb.out hb);have n4_:=Am (bP (by repeat (first|(with_reducible first|exact HB.out|apply oA|apply pN|apply o1|refine bS ?_ Be.out|refine bS ?_ Bf.out)|exact HB.out)) hb);have n5_:=Am (hbox);have n6_:=Am ((by rw [hg];exact (bZ (by repeat (first|(with_reducible first|exact HB.out|apply oA|apply pN|apply o1|refine bS ?_ Be.out|refine bS ?_ Bf.out)|exact HB.out))):w.heap.size≤Bg));have n7_:=Am ((by rw [hg];exact (bZ (by repeat (first|(with_reducible first|exact HB.out|apply oA|apply pN|apply o1|refine bS ?_ Be.out|refine bS ?_ Bf.out)|exact HB.out))):w.heap.size≤Bg));have n8_:=Am ((nL Ba.out hg));have n9_:=Am ((nG Ba.out hg));have n10_:=Am ((nL Bb.out hg));have n11_:=Am ((nG Bb.out hg));clear Bk Bl Ba Bb HB;revert n0_ n1_ n2_ n3_ n4_ n5_ n6_ n7_ n8_ n9_ n10_ n11_;intro Bk Bl Ba Bb HB Bj BB Bs Bp Bq Bo Br;clear hb hbox hg;obtain ⟨Ao40,co40,eo40⟩:=rC Bk.out;subst eo40;have Di:=Bq.out;have Dj:=Bp.out;have Dk:=Br.out;have Dl:=Bo.out;have BW:=cz0 Bj.out;have BX:=cz1 Bj.out;have BY:=bF Bj.out 0;have BZ:=bF Bj.out 1;obtain ⟨Ao44,co44,eo44⟩:=rC Bl.out;subst eo44;have B0:=cz0 Bb.out;have B1:=cz1 Bb.out;have B2:=bF Bb.out 0;have B3:=bF Bb.out 1))
   refine bodyPost_ret (results_ctt rfl _ _ Bc 26 #[.slice Ao40 t308.length co40,.slice Ao44 t311.length co44] (0,0) _ rfl (by (with_reducible repeat (first|refine bN ?_ _|refine bD ?_|refine bA ?_ _));refine bT (cs:=#[.slice Ao40 t308.length co40,.slice none 0 0]) ?_ 1 _ rfl;(with_reducible repeat (first|refine bN ?_ _|refine bD ?_|refine bA ?_ _));refine bT (cs:=#[.slice none 0 0,.slice none 0 0]) ?_ 0 _ rfl;(with_reducible repeat (first|refine bN ?_ _|refine bD ?_|refine bA ?_ _|refine bE ?_ Bo.out _));exact Bb.out) Try.underlying26 rfl (by kernel_rfl)) rfl ?_
   exact ⟨_,_,by first|rfl|(simp [errW_none,errW_some] <;> rfl)|(simp [*,errW_none,errW_some] <;> rfl),by (with_reducible repeat (first|apply rA|apply rN|apply rD));exact rM (rF (p:=⟨Bc,1,none⟩) (rF (p:=⟨Bc,0,none⟩) (rF (p:=⟨Bg,1,none⟩) (rF (p:=⟨Bg,0,none⟩) (rT (rT Bk.out Bj.out (by decide)) Bb.out (by decide)) (fun _ hk=>hk.1.2) (.slice Ao40 t308.length co40)) (fun _ hk=>hk.1.2) (.slice Ao44 t311.length co44)) (fun _ hk=>hk.2) (.slice Ao40 t308.length co40)) (fun _ hk=>hk.2) (.slice Ao44 t311.length co44)) (fun _ hk=>trivial),by (with_reducible repeat (first|apply rA|apply rN|apply rD));exact rM (rF (p:=⟨Bc,1,none⟩) (rF (p:=⟨Bc,0,none⟩) (rF (p:=⟨Bg,1,none⟩) (rF (p:=⟨Bg,0,none⟩) (rT (rT Bl.out Bj.out (by decide)) Bb.out (by decide)) (fun _ hk=>hk.1.2) (.slice Ao40 t308.length co40)) (fun _ hk=>hk.1.2) (.slice Ao44 t311.length co44)) (fun _ hk=>hk.2) (.slice Ao40 t308.length co40)) (fun _ hk=>hk.2) (.slice Ao44 t311.length co44)) (fun _ hk=>trivial),by repeat (first|(with_reducible first|exact HB.out|apply oA|apply pN|apply o1|refine bS ?_ Be.out|refine bS ?_ Bf.out|refine bS ?_ Bs.out)|exact HB.out)⟩

end Go.Proofs.Ytpdfkbggaihfpaa.PFnPagesTake
