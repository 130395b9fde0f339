/- Proved here, without a condition beyond those that each theorem states: what the Go functions named below do is what the plain functions of the same names say. Written by xprint.py, a program of this session. -/
import Derived.Test.YtpdfkbggaihfpaaPFnLockWordx0
import Derived.Test.YtpdfkbggaihfpaaPFnLockWordx2
import Derived.Test.YtpdfkbggaihfpaaPFnLockWordx3
import Derived.Test.YtpdfkbggaihfpaaPFnLockWordx4
import Derived.Test.YtpdfkbggaihfpaaPFnLockWordx5
import Derived.Test.YtpdfkbggaihfpaaPFnLockWordx10
import Derived.Test.YtpdfkbggaihfpaaPFnLockWordx12
namespace Go.Proofs.Ytpdfkbggaihfpaa.PFnLockWord
open Go.RowKit Go.Proofs.YtpdfkbggaihfpaaW.PrintWords Go.Proofs.YtpdfkbggaihfpaaW.PrintLast Go.Proofs.YtpdfkbggaihfpaaW.PrintMore
attribute [local go_sem] max2_int min2_int max_two min_two max_three min_three max_four min_four   -- for this text's walks alone
set_option linter.unusedVariables false
set_option linter.unusedSimpArgs false

attribute [local go_sem ↓] isSome_setCell_
/-! ### laws_FnLockWord: function 8 -/
set_option maxHeartbeats 8000000 in
set_option maxRecDepth 100000 in
theorem laws_FnLockWord.calls (k:Nat) (A0:Option Addr) (c0:Nat) (l0:List Int) (A1:Option Addr) (c1:Nat) (l1:List Int) (r:Bool) (w:World) (hr0:Kd.C (Kd.int .u8) w A0 l0.length l0) (hc0:l0.length≤c0) (hr1:Kd.C (Kd.int .u8) w A1 l1.length l1) (hc1:l1.length≤c1) (h:laws_FnLockWord.f k l0 l1=some r) (hT_:Aside0 (r=true)) :
  Calls Try.prog 8 #[.slice A0 l0.length c0,.slice A1 l1.length c1] w fun e w'=>e=.returned (.bool r)∧Below w.heap.size w w':=by
 have hu51:=Try.underlying51
 have hu57:=Try.underlying57
 have HR0:=Am hr0
 have HC0:=Am hc0
 clear hr0 hc0
 have HR1:=Am hr1
 have HC1:=Am hc1
 clear hr1 hc1
 have HB:=Am (bJ w.heap.size w)
 have H:(if (l0.length:Int) > 1048576 then (laws_FnLockWord.j0 k l0 l1 true) else (laws_FnLockWord.j0 k l0 l1 (decide ((l1.length:Int) > 1048576))))=some r:=h
 clear h
 have HC3:=Am H
 clear H
 go_enter Try.func8,Try.ntmps8
 go_upto_region 1 with (fail)
 go_cut [25] (fun v25 wc=>∃ (kq:Nat) (x25_2:Bool),v25=.bool x25_2∧Aside0 (laws_FnLockWord.j0 kq l0 l1 x25_2=some r)∧Aside0 (kq≤k)∧Aside0 (Below w.heap.size w wc))
 case first =>
  have H:=HC3.out
  clear HC3
  by_cases c4:(l0.length:Int) > 1048576
  ·rw [if_pos c4] at H
   have c4b0:decide (1048576<(l0.length:Int))=true:=dT c4
   have c4b1:decide (1048576<l0.length)=true:=dT (by omega)
   clear c4
   (first|rw [c4b0]|(simp only [i64_w,i32_w];rw [c4b0])|skip)
   have H':=Am H
   clear H
   go_wp2
   go_meet
   case rel=>exact ⟨_,(true),(by first|rfl|(simp;done)|(simp [*];done)),H',⟨by first|omega|exact nR _⟩,⟨by repeat (first|(with_reducible first|exact HB.out|apply oA|apply pN|apply o1)|exact HB.out)⟩⟩
  rw [if_neg c4] at H
  have c4b0:decide (1048576<(l0.length:Int))=false:=dF c4
  have c4b1:decide (1048576<l0.length)=false:=dF (by omega)
  clear c4
  (first|rw [c4b0]|(simp only [i64_w,i32_w];rw [c4b0])|skip)
  have H':=Am H
  clear H
  go_wp2
  go_meet
  case rel=>exact ⟨_,(decide ((l1.length:Int) > 1048576)),(by first|rfl|(simp;done)|(simp [*];done)),H',⟨by first|omega|exact nR _⟩,⟨by repeat (first|(with_reducible first|exact HB.out|apply oA|apply pN|apply o1)|exact HB.out)⟩⟩
 case rest =>
  clear HC3
  try clear c1
  try clear p2
  try clear c4
  try clear c4b0
  try clear c4b1
  obtain ⟨kq,x25_2,rfl,HA,BE,HB⟩:=hcut
  cases kq with
 |zero=>exact absurd HA.out (by simp [laws_FnLockWord.j0])
 |succ kj2 =>
   have H:=HA.out
   clear HA
   simp only [laws_FnLockWord.j0] at H
   by_cases c5:x25_2=true
   ·subst c5
    have H1:(some true)=some r:=by rw [if_pos rfl] at H;exact H
    clear H
    have H:=H1
    clear H1
    obtain rfl:=oJ H
    go_wp2
    go_ret
    exact ⟨by first|rfl|(simp [errW_none,errW_some] <;> rfl)|(simp [*,errW_none,errW_some] <;> rfl),by repeat (first|(with_reducible first|exact HB.out|apply oA|apply pN|apply o1)|exact HB.out)⟩
   replace c5:=Bool.eq_false_iff.mpr c5
   subst c5
   have H1:((spec_DrawLockNew.f kj2 l0).bind fun bt240=>((impl_LockNew.f kj2 bt240.1 bt240.2).bind fun bt242=>((spec_LockNew.f kj2 bt240.1 bt240.2).bind fun bt251=>(if (bt242.2.2.2 != bt251.2.2.2)=true then (laws_FnLockWord.j1 kj2 l1 bt240.1 bt242.2.2.2 bt251.2.2.2 true bt242.1 bt242.2.1 bt242.2.2.1 bt251.1 bt251.2.1 bt251.2.2.1) else ((laws_qdLock.f kj2 bt242.1 bt242.2.1 bt242.2.2.1 bt251.1 bt251.2.1 bt251.2.2.1).bind fun t260=>(if t260=true then (laws_FnLockWord.j1 kj2 l1 bt240.1 bt242.2.2.2 bt251.2.2.2 (!bt242.2.2.2) bt242.1 bt242.2.1 bt242.2.2.1 bt251.1 bt251.2.1 bt251.2.2.1) else (laws_FnLockWord.j1 kj2 l1 bt240.1 bt242.2.2.2 bt251.2.2.2 true bt242.1 bt242.2.1 bt242.2.2.1 bt251.1 bt251.2.1 bt251.2.2.1)))))))=some r:=by rw [if_neg (show ¬ (false=true) by decide)] at H;exact H
   clear H
   have H:=H1
   clear H1
   replace H:=oC H
   obtain ⟨⟨t240,t241⟩,A60,H⟩:=H
   replace H:((impl_LockNew.f kj2 t240 t241).bind fun bt242=>((spec_LockNew.f kj2 t240 t241).bind fun bt251=>(if (bt242.2.2.2 != bt251.2.2.2)=true then (laws_FnLockWord.j1 kj2 l1 t240 bt242.2.2.2 bt251.2.2.2 true bt242.1 bt242.2.1 bt242.2.2.1 bt251.1 bt251.2.1 bt251.2.2.1) else ((laws_qdLock.f kj2 bt242.1 bt242.2.1 bt242.2.2.1 bt251.1 bt251.2.1 bt251.2.2.1).bind fun t260=>(if t260=true then (laws_FnLockWord.j1 kj2 l1 t240 bt242.2.2.2 bt251.2.2.2 (!bt242.2.2.2) bt242.1 bt242.2.1 bt242.2.2.1 bt251.1 bt251.2.1 bt251.2.2.1) else (laws_FnLockWord.j1 kj2 l1 t240 bt242.2.2.2 bt251.2.2.2 true bt242.1 bt242.2.1 bt242.2.2.1 bt251.1 bt251.2.1 bt251.2.2.1))))))=some r:=H
   have A6:=Am A60
   clear A60
   replace H:=oC H
   obtain ⟨⟨t242,t243,t246,t249⟩,A70,H⟩:=H
   replace H:((spec_LockNew.f kj2 t240 t241).bind fun bt251=>(if (t249 != bt251.2.2.2)=true then (laws_FnLockWord.j1 kj2 l1 t240 t249 bt251.2.2.2 true t242 t243 t246 bt251.1 bt251.2.1 bt251.2.2.1) else ((laws_qdLock.f kj2 t242 t243 t246 bt251.1 bt251.2.1 bt251.2.2.1).bind fun t260=>(if t260=true then (laws_FnLockWord.j1 kj2 l1 t240 t249 bt251.2.2.2 (!t249) t242 t243 t246 bt251.1 bt251.2.1 bt251.2.2.1) else (laws_FnLockWord.j1 kj2 l1 t240 t249 bt251.2.2.2 true t242 t243 t246 bt251.1 bt251.2.1 bt251.2.2.1)))))=some r:=H
   have A7:=Am A70
   clear A70
   replace H:=oC H
   obtain ⟨⟨t251,t252,t255,t258⟩,A80,H⟩:=H
   replace H:(if (t249 != t258)=true then (laws_FnLockWord.j1 kj2 l1 t240 t249 t258 true t242 t243 t246 t251 t252 t255) else ((laws_qdLock.f kj2 t242 t243 t246 t251 t252 t255).bind fun t260=>(if t260=true then (laws_FnLockWord.j1 kj2 l1 t240 t249 t258 (!t249) t242 t243 t246 t251 t252 t255) else (laws_FnLockWord.j1 kj2 l1 t240 t249 t258 true t242 t243 t246 t251 t252 t255))))=some r:=H
   have A8:=Am A80
   clear A80
   have HC9:=Am H
   clear H
   go_upto_region 6 with (first|((with_reducible refine gC (f:=32) rfl ?_);refine goesL_ (some 28) rfl rfl Try.func32 (by kernel_rfl) rfl #[.slice A0 l0.length c0] rfl (by (try simp only [lM,lC,lN]);first|done|rfl|(simp only [lD,lT];rfl)) ?_;(with_reducible refine (spec_DrawLockNew.calls kj2 _ _ l0 t240 t241 _ ?side1 ?side2 A6.out).mono ?_);(case side1=>exact cL (cB HR0.out HB.out));(case side2=>exact HC0.out);rintro e w10 ⟨rfl,hb⟩;refine ⟨_,rfl,?_⟩;have n0_:=Am (bP (by repeat (first|(with_reducible first|exact HB.out|apply oA|apply pN|apply o1)|exact HB.out)) hb);clear HB;revert n0_;intro HB;(try clear hb);(try clear hb2);(try clear hk);(try clear hi))|((with_reducible refine gC (f:=33) rfl ?_);refine goesL_ (some 34) rfl rfl Try.func33 (by kernel_rfl) rfl #[.int .i64 t240,.int .i64 t241] rfl (by (try simp only [lM,lC,lN]);first|done|rfl|(simp only [lD,lT];rfl)) ?_;(with_reducible refine (impl_LockNew.calls kj2 t240 t241 t242 t243 t246 t249 _ A7.out).mono ?_);rintro e w11 ⟨v244,v247,rfl,ho0,ho1,hb⟩;refine ⟨_,rfl,?_⟩;have n0_:=Am (rW ho0 (bZ (by repeat (first|(with_reducible first|exact HB.out|apply oA|apply pN|apply o1)|exact HB.out))));have n1_:=Am (rW ho1 (bZ (by repeat (first|(with_reducible first|exact HB.out|apply oA|apply pN|apply o1)|exact HB.out))));have n2_:=Am (bP (by repeat (first|(with_reducible first|exact HB.out|apply oA|apply pN|apply o1)|exact HB.out)) hb);clear HB;revert n0_ n1_ n2_;intro BG BH HB;(try clear hb);(try clear hb2);(try clear hk);(try clear hi);(try clear ho0);(try clear ho1))|((with_reducible refine gD (N:=7) rfl ?_);(try (refine gate_guard (by rfl) ?_;dsimp only));refine bI ?hg (N:=7) ?hd (cs:=#[.int .i64 0,.slice none 0 0,.slice none 0 0]) (t:=51) ?hr ?_;(case hd=>rfl);(case hg=>rfl);(case hr=>first|(go_simp;done)|(go_simp;rfl));intro Bd hg w12 hbox hb;have n0_:=Am (rB (rL BG.out) hb);have n1_:=Am (rB (rL BH.out) hb);have n2_:=Am (bP (by repeat (first|(with_reducible first|exact HB.out|apply oA|apply pN|apply o1)|exact HB.out)) hb);have n3_:=Am (hbox);have n4_:=Am ((by rw [hg];exact (bZ (by repeat (first|(with_reducible first|exact HB.out|apply oA|apply pN|apply o1)|exact HB.out))):w.heap.size≤Bd));have n5_:=Am ((by rw [hg];exact (bZ (by repeat (first|(with_reducible first|exact HB.out|apply oA|apply pN|apply o1)|exact HB.out))):w.heap.size≤Bd));clear BG BH HB;revert n0_ n1_ n2_ n3_ n4_ n5_;intro BG BH HB Bb Y7 Bo;clear hb hbox hg;have BQ:=cz0 Bb.out;have BR:=cz1 Bb.out;have BS:=cz2 Bb.out;have BT:=bF Bb.out 0;have BU:=bF Bb.out 1;have BV:=bF Bb.out 2;obtain ⟨Ao14,co14,eo14⟩:=rC BG.out;subst eo14;obtain ⟨Ao15,co15,eo15⟩:=rC BH.out;subst eo15)|((with_reducible refine gC (f:=34) rfl ?_);refine goesL_ (some 40) rfl rfl Try.func34 (by kernel_rfl) rfl #[.int .i64 t240,.int .i64 t241] rfl (by (try simp only [lM,lC,lN]);first|done|rfl|(simp only [lD,lT];rfl)) ?_;(with_reducible refine (spec_LockNew.calls kj2 t240 t241 t251 t252 t255 t258 _ A8.out).mono ?_);rintro e w16 ⟨v253,v256,rfl,ho0,ho1,hb⟩;refine ⟨_,rfl,?_⟩;have n0_:=Am (rX (by (with_reducible repeat (first|apply rA|apply rN|apply rD));exact (rM (rF (p:=⟨Bd,2,none⟩) (rF (p:=⟨Bd,1,none⟩) (rF (p:=⟨Bd,0,none⟩) (rT BG.out Bb.out (by decide)) (fun _ hk=>hk.2) (.int .i64 t242)) (fun _ hk=>hk.2) (.slice Ao14 t243.length co14)) (fun _ hk=>hk.2) (.slice Ao15 t246.length co15)) (fun _ h_=>h_.1))) (rZ ho0) hb);have n1_:=Am (rX (by (with_reducible repeat (first|apply rA|apply rN|apply rD));exact (rM (rF (p:=⟨Bd,2,none⟩) (rF (p:=⟨Bd,1,none⟩) (rF (p:=⟨Bd,0,none⟩) (rT BH.out Bb.out (by decide)) (fun _ hk=>hk.2) (.int .i64 t242)) (fun _ hk=>hk.2) (.slice Ao14 t243.length co14)) (fun _ hk=>hk.2) (.slice Ao15 t246.length co15)) (fun _ h_=>h_.1))) (rZ ho1) hb);have n2_:=Am (rW (rQ ho0 (rI (by (with_reducible repeat (first|apply rA|apply rN|apply rD));exact (rM (rF (p:=⟨Bd,2,none⟩) (rF (p:=⟨Bd,1,none⟩) (rF (p:=⟨Bd,0,none⟩) (rT BG.out Bb.out (by decide)) (fun _ hk=>hk.2) (.int .i64 t242)) (fun _ hk=>hk.2) (.slice Ao14 t243.length co14)) (fun _ hk=>hk.2) (.slice Ao15 t246.length co15)) (fun _ h_=>h_.1))))) (bZ (by repeat (first|(with_reducible first|exact HB.out|apply oA|apply pN|apply o1|refine bS ?_ Bo.out)|exact HB.out))));have n3_:=Am (rW (rQ ho1 (rI (by (with_reducible repeat (first|apply rA|apply rN|apply rD));exact (rM (rF (p:=⟨Bd,2,none⟩) (rF (p:=⟨Bd,1,none⟩) (rF (p:=⟨Bd,0,none⟩) (rT BH.out Bb.out (by decide)) (fun _ hk=>hk.2) (.int .i64 t242)) (fun _ hk=>hk.2) (.slice Ao14 t243.length co14)) (fun _ hk=>hk.2) (.slice Ao15 t246.length co15)) (fun _ h_=>h_.1))))) (bZ (by repeat (first|(with_reducible first|exact HB.out|apply oA|apply pN|apply o1|refine bS ?_ Bo.out)|exact HB.out))));have n4_:=Am (bB (g:=Bd) (o:=.cells #[.int .i64 t242,.slice Ao14 t243.length co14,.slice Ao15 t246.length co15] 51 (0,0)) (by (with_reducible repeat (first|refine bN ?_ _|refine bD ?_|refine bA ?_ _));refine bT (cs:=#[.int .i64 t242,.slice Ao14 t243.length co14,.slice none 0 0]) ?_ 2 _ rfl;(with_reducible repeat (first|refine bN ?_ _|refine bD ?_|refine bA ?_ _));refine bT (cs:=#[.int .i64 t242,.slice none 0 0,.slice none 0 0]) ?_ 1 _ rfl;(with_reducible repeat (first|refine bN ?_ _|refine bD ?_|refine bA ?_ _));refine bT (cs:=#[.int .i64 0,.slice none 0 0,.slice none 0 0]) ?_ 0 _ rfl;(with_reducible repeat (first|refine bN ?_ _|refine bD ?_|refine bA ?_ _));exact Bb.out) hb);have n5_:=Am (bP (by repeat (first|(with_reducible first|exact HB.out|apply oA|apply pN|apply o1|refine bS ?_ Bo.out)|exact HB.out)) hb);clear BG BH Bb HB;revert n0_ n1_ n2_ n3_ n4_ n5_;intro BG BH BK BL Bb HB;(try clear hb);(try clear hb2);(try clear hk);(try clear hi);(try clear ho0);(try clear ho1))|((with_reducible refine gD (N:=9) rfl ?_);(try (refine gate_guard (by rfl) ?_;dsimp only));refine bI ?hg (N:=9) ?hd (cs:=#[.int .i64 0,.slice none 0 0,.slice none 0 0]) (t:=51) ?hr ?_;(case hd=>rfl);(case hg=>rfl);(case hr=>first|(go_simp;done)|(go_simp;rfl));intro Bj hg w17 hbox hb;have n0_:=Am (rB (rL BG.out) hb);have n1_:=Am (rB (rL BH.out) hb);have n2_:=Am (rB (rL BK.out) hb);have n3_:=Am (rB (rL BL.out) hb);have n4_:=Am (bX Bb.out hb);have n5_:=Am (bP (by repeat (first|(with_reducible first|exact HB.out|apply oA|apply pN|apply o1|refine bS ?_ Bo.out)|exact HB.out)) hb);have n6_:=Am (hbox);have n7_:=Am ((by rw [hg];exact (bZ (by repeat (first|(with_reducible first|exact HB.out|apply oA|apply pN|apply o1|refine bS ?_ Bo.out)|exact HB.out))):w.heap.size≤Bj));have n8_:=Am ((by rw [hg];exact (bZ (by repeat (first|(with_reducible first|exact HB.out|apply oA|apply pN|apply o1|refine bS ?_ Bo.out)|exact HB.out))):w.heap.size≤Bj));have n9_:=Am ((nL Bb.out hg));have n10_:=Am ((nG Bb.out hg));clear BG BH BK BL Bb HB;revert n0_ n1_ n2_ n3_ n4_ n5_ n6_ n7_ n8_ n9_ n10_;intro BG BH BK BL Bb HB Bi Y8 Bs Bz BA;clear hb hbox hg;have Y9:=BA.out;have Za:=Bz.out;have BW:=cz0 Bi.out;have BX:=cz1 Bi.out;have BY:=cz2 Bi.out;have BZ:=bF Bi.out 0;have B0:=bF Bi.out 1;have B1:=bF Bi.out 2;obtain ⟨Ao20,co20,eo20⟩:=rC BK.out;subst eo20;obtain ⟨Ao21,co21,eo21⟩:=rC BL.out;subst eo21))
   (try simp only [Act.put,lA,lZ,lS])
   go_cut [55] (fun v55 wc=>∃ (kq:Nat) (x55_8:Bool),v55=.bool x55_8∧Aside0 (laws_FnLockWord.j1 kq l1 t240 t249 t258 x55_8 t242 t243 t246 t251 t252 t255=some r)∧Aside0 (kq≤kj2)∧Aside0 (Kd.R k57 57 wc w.heap.size (fun k_=>some k_≠((.slice Ao20 t252.length co20):Value).ownBlock) (.slice Ao14 t243.length co14) t243)∧Aside0 (Kd.Q (Kd.int .i64) 3 wc w.heap.size (fun k_=>some k_≠((.slice Ao21 t255.length co21):Value).ownBlock) (.slice Ao15 t246.length co15) t246)∧Aside0 (Kd.R k57 57 wc w.heap.size (fun k_=>some k_≠((.slice Ao14 t243.length co14):Value).ownBlock) (.slice Ao20 t252.length co20) t252)∧Aside0 (Kd.Q (Kd.int .i64) 3 wc w.heap.size (fun k_=>some k_≠((.slice Ao15 t246.length co15):Value).ownBlock) (.slice Ao21 t255.length co21) t255)∧Aside0 (wc.heap[Bd]?=some (.cells #[.int .i64 t242,(.slice Ao14 t243.length co14),(.slice Ao15 t246.length co15)] 51 (0,0)))∧Aside0 (wc.heap[Bj]?=some (.cells #[.int .i64 t251,(.slice Ao20 t252.length co20),(.slice Ao21 t255.length co21)] 51 (0,0)))∧Aside0 (Below w.heap.size w wc))
   case first =>
    have H:=HC9.out
    clear HC9
    by_cases c22:(t249 != t258)=true
    ·rw [if_pos c22] at H
     have c22b0:(t249 != t258)=true:=c22
     (try (have c22b1:decide (t249=t258)=false:=by simpa using c22))
     (try (have c22b2:(t249 == t258)=false:=by simpa using c22))
     (try (have c22b3:¬ (t249=t258):=by simpa using c22))
     clear c22
     (first|rw [c22b0]|(simp only [i64_w,i32_w];rw [c22b0])|skip)
     have H':=Am H
     clear H
     go_wp2
     go_meet
     case rel=>exact ⟨_,(true),(by first|rfl|(simp;done)|(simp [*];done)),H',⟨by have:=BE.out;first|omega|exact nR _⟩,⟨by (with_reducible repeat (first|apply rA|apply rN|apply rD));exact rM (rF (p:=⟨Bj,2,none⟩) (rF (p:=⟨Bj,1,none⟩) (rF (p:=⟨Bj,0,none⟩) (rT BG.out Bi.out (by decide)) (fun _ hk=>hk.2) (.int .i64 t251)) (fun _ hk=>hk.2) (.slice Ao20 t252.length co20)) (fun _ hk=>hk.2) (.slice Ao21 t255.length co21)) (fun _ hk=>hk.1.2)⟩,⟨Kd.Q_of_R (by (with_reducible repeat (first|apply rA|apply rN|apply rD));exact rM (rF (p:=⟨Bj,2,none⟩) (rF (p:=⟨Bj,1,none⟩) (rF (p:=⟨Bj,0,none⟩) (rT BH.out Bi.out (by decide)) (fun _ hk=>hk.2) (.int .i64 t251)) (fun _ hk=>hk.2) (.slice Ao20 t252.length co20)) (fun _ hk=>hk.2) (.slice Ao21 t255.length co21)) (fun _ hk=>hk.1.2))⟩,⟨by (with_reducible repeat (first|apply rA|apply rN|apply rD));exact rM (rF (p:=⟨Bj,2,none⟩) (rF (p:=⟨Bj,1,none⟩) (rF (p:=⟨Bj,0,none⟩) (rT BK.out Bi.out (by decide)) (fun _ hk=>hk.2) (.int .i64 t251)) (fun _ hk=>hk.2) (.slice Ao20 t252.length co20)) (fun _ hk=>hk.2) (.slice Ao21 t255.length co21)) (fun _ hk=>hk.1.2)⟩,⟨Kd.Q_of_R (by (with_reducible repeat (first|apply rA|apply rN|apply rD));exact rM (rF (p:=⟨Bj,2,none⟩) (rF (p:=⟨Bj,1,none⟩) (rF (p:=⟨Bj,0,none⟩) (rT BL.out Bi.out (by decide)) (fun _ hk=>hk.2) (.int .i64 t251)) (fun _ hk=>hk.2) (.slice Ao20 t252.length co20)) (fun _ hk=>hk.2) (.slice Ao21 t255.length co21)) (fun _ hk=>hk.1.2))⟩,⟨by (with_reducible repeat (first|refine bN ?_ _|refine bD ?_|refine bA ?_ _|refine bE ?_ Bz.out _));exact Bb.out⟩,⟨by (with_reducible repeat (first|refine bN ?_ _|refine bD ?_|refine bA ?_ _));refine bT (cs:=#[.int .i64 t251,.slice Ao20 t252.length co20,.slice none 0 0]) ?_ 2 _ rfl;(with_reducible repeat (first|refine bN ?_ _|refine bD ?_|refine bA ?_ _));refine bT (cs:=#[.int .i64 t251,.slice none 0 0,.slice none 0 0]) ?_ 1 _ rfl;(with_reducible repeat (first|refine bN ?_ _|refine bD ?_|refine bA ?_ _));refine bT (cs:=#[.int .i64 0,.slice none 0 0,.slice none 0 0]) ?_ 0 _ rfl;(with_reducible repeat (first|refine bN ?_ _|refine bD ?_|refine bA ?_ _));exact Bi.out⟩,⟨by repeat (first|(with_reducible first|exact HB.out|apply oA|apply pN|apply o1|refine bS ?_ Bo.out|refine bS ?_ Bs.out)|exact HB.out)⟩⟩
    rw [if_neg c22] at H
    have c22b0:(t249 != t258)=false:=by simpa using c22
    (try (have c22b1:decide (t249=t258)=true:=by simpa using c22))
    (try (have c22b2:(t249 == t258)=true:=by simpa using c22))
    clear c22
    (first|rw [c22b0]|(simp only [i64_w,i32_w];rw [c22b0])|skip)
    replace H:=oC H
    obtain ⟨t260,A230,H⟩:=H
    replace H:(if t260=true then (laws_FnLockWord.j1 kj2 l1 t240 t249 t258 (!t249) t242 t243 t246 t251 t252 t255) else (laws_FnLockWord.j1 kj2 l1 t240 t249 t258 true t242 t243 t246 t251 t252 t255))=some r:=H
    have A23:=Am A230
    clear A230
    by_cases c24:t260=true
    ·subst c24
     have H1:(laws_FnLockWord.j1 kj2 l1 t240 t249 t258 (!t249) t242 t243 t246 t251 t252 t255)=some r:=by rw [if_pos rfl] at H;exact H
     clear H
     have H:=H1
     clear H1
     have H':=Am H
     clear H
     have Zb:=Bz.out
     have Zc:=BA.out
     have B2:=cz0 Bb.out
     have B3:=cz1 Bb.out
     have B4:=cz2 Bb.out
     have B5:=bF Bb.out 0
     have B6:=bF Bb.out 1
     have B7:=bF Bb.out 2
     have B8:=cz0 Bi.out
     have B9:=cz1 Bi.out
     have Da:=cz2 Bi.out
     have Db:=bF Bi.out 0
     have Dc:=bF Bi.out 1
     have Dd:=bF Bi.out 2
     go_wp2_with (first|(go_at_call 35;(with_reducible refine (laws_qdLock.calls kj2 t242 _ _ t243 _ _ t246 t251 _ _ t252 _ _ t255 true _ ?side1 ?side2 ?side3 ?side4 ?side5 ?side6 ?side7 ?side8 A23.out).mono ?_);(case side1=>refine (rR (e:=57) (base:=w.heap.size) (ok:=fun k_=>(True∧some k_≠(.slice Ao20 t252.length co20:Value).ownBlock)) (n:=t243.length) (c:=co14) ?_).2.2;exact (by (with_reducible repeat (first|apply rA|apply rN|apply rD));exact (rM (rF (p:=⟨Bj,2,none⟩) (rF (p:=⟨Bj,1,none⟩) (rF (p:=⟨Bj,0,none⟩) (rT BG.out Bi.out (by decide)) (fun _ hk=>hk.2) (.int .i64 t251)) (fun _ hk=>hk.2) (.slice Ao20 t252.length co20)) (fun _ hk=>hk.2) (.slice Ao21 t255.length co21)) (fun _ h_=>h_.1))));(case side2=>exact (rR BG.out).2.1);(case side3=>refine (rR (e:=3) (base:=w.heap.size) (ok:=fun k_=>(True∧some k_≠(.slice Ao21 t255.length co21:Value).ownBlock)) (n:=t246.length) (c:=co15) ?_).2.2;exact (by (with_reducible repeat (first|apply rA|apply rN|apply rD));exact (rM (rF (p:=⟨Bj,2,none⟩) (rF (p:=⟨Bj,1,none⟩) (rF (p:=⟨Bj,0,none⟩) (rT BH.out Bi.out (by decide)) (fun _ hk=>hk.2) (.int .i64 t251)) (fun _ hk=>hk.2) (.slice Ao20 t252.length co20)) (fun _ hk=>hk.2) (.slice Ao21 t255.length co21)) (fun _ h_=>h_.1))));(case side4=>exact (rR BH.out).2.1);(case side5=>refine (rR (e:=57) (base:=w.heap.size) (ok:=fun k_=>(True∧some k_≠(.slice Ao14 t243.length co14:Value).ownBlock)) (n:=t252.length) (c:=co20) ?_).2.2;exact (by (with_reducible repeat (first|apply rA|apply rN|apply rD));exact (rM (rF (p:=⟨Bj,2,none⟩) (rF (p:=⟨Bj,1,none⟩) (rF (p:=⟨Bj,0,none⟩) (rT BK.out Bi.out (by decide)) (fun _ hk=>hk.2) (.int .i64 t251)) (fun _ hk=>hk.2) (.slice Ao20 t252.length co20)) (fun _ hk=>hk.2) (.slice Ao21 t255.length co21)) (fun _ h_=>h_.1))));(case side6=>exact (rR BK.out).2.1);(case side7=>refine (rR (e:=3) (base:=w.heap.size) (ok:=fun k_=>(True∧some k_≠(.slice Ao15 t246.length co15:Value).ownBlock)) (n:=t255.length) (c:=co21) ?_).2.2;exact (by (with_reducible repeat (first|apply rA|apply rN|apply rD));exact (rM (rF (p:=⟨Bj,2,none⟩) (rF (p:=⟨Bj,1,none⟩) (rF (p:=⟨Bj,0,none⟩) (rT BL.out Bi.out (by decide)) (fun _ hk=>hk.2) (.int .i64 t251)) (fun _ hk=>hk.2) (.slice Ao20 t252.length co20)) (fun _ hk=>hk.2) (.slice Ao21 t255.length co21)) (fun _ h_=>h_.1))));(case side8=>exact (rR BL.out).2.1);rintro e w28 ⟨rfl,hb⟩;have n0_:=Am (rB (by (with_reducible repeat (first|apply rA|apply rN|apply rD));exact (rM (rF (p:=⟨Bj,2,none⟩) (rF (p:=⟨Bj,1,none⟩) (rF (p:=⟨Bj,0,none⟩) (rT BG.out Bi.out (by decide)) (fun _ hk=>hk.2) (.int .i64 t251)) (fun _ hk=>hk.2) (.slice Ao20 t252.length co20)) (fun _ hk=>hk.2) (.slice Ao21 t255.length co21)) (fun _ h_=>h_.1))) hb);have n1_:=Am (rB (by (with_reducible repeat (first|apply rA|apply rN|apply rD));exact (rM (rF (p:=⟨Bj,2,none⟩) (rF (p:=⟨Bj,1,none⟩) (rF (p:=⟨Bj,0,none⟩) (rT BH.out Bi.out (by decide)) (fun _ hk=>hk.2) (.int .i64 t251)) (fun _ hk=>hk.2) (.slice Ao20 t252.length co20)) (fun _ hk=>hk.2) (.slice Ao21 t255.length co21)) (fun _ h_=>h_.1))) hb);have n2_:=Am (rB (by (with_reducible repeat (first|apply rA|apply rN|apply rD));exact (rM (rF (p:=⟨Bj,2,none⟩) (rF (p:=⟨Bj,1,none⟩) (rF (p:=⟨Bj,0,none⟩) (rT BK.out Bi.out (by decide)) (fun _ hk=>hk.2) (.int .i64 t251)) (fun _ hk=>hk.2) (.slice Ao20 t252.length co20)) (fun _ hk=>hk.2) (.slice Ao21 t255.length co21)) (fun _ h_=>h_.1))) hb);have n3_:=Am (rB (by (with_reducible repeat (first|apply rA|apply rN|apply rD));exact (rM (rF (p:=⟨Bj,2,none⟩) (rF (p:=⟨Bj,1,none⟩) (rF (p:=⟨Bj,0,none⟩) (rT BL.out Bi.out (by decide)) (fun _ hk=>hk.2) (.int .i64 t251)) (fun _ hk=>hk.2) (.slice Ao20 t252.length co20)) (fun _ hk=>hk.2) (.slice Ao21 t255.length co21)) (fun _ h_=>h_.1))) hb);have n4_:=Am (bB (g:=Bd) (o:=.cells #[.int .i64 t242,.slice Ao14 t243.length co14,.slice Ao15 t246.length co15] 51 (0,0)) (by (with_reducible repeat (first|refine bN ?_ _|refine bD ?_|refine bA ?_ _|refine bE ?_ Bz.out _));exact Bb.out) hb);have n5_:=Am (bB (g:=Bj) (o:=.cells #[.int .i64 t251,.slice Ao20 t252.length co20,.slice Ao21 t255.length co21] 51 (0,0)) (by (with_reducible repeat (first|refine bN ?_ _|refine bD ?_|refine bA ?_ _));refine bT (cs:=#[.int .i64 t251,.slice Ao20 t252.length co20,.slice none 0 0]) ?_ 2 _ rfl;(with_reducible repeat (first|refine bN ?_ _|refine bD ?_|refine bA ?_ _));refine bT (cs:=#[.int .i64 t251,.slice none 0 0,.slice none 0 0]) ?_ 1 _ rfl;(with_reducible repeat (first|refine bN ?_ _|refine bD ?_|refine bA ?_ _));refine bT (cs:=#[.int .i64 0,.slice none 0 0,.slice none 0 0]) ?_ 0 _ rfl;(with_reducible repeat (first|refine bN ?_ _|refine bD ?_|refine bA ?_ _));exact Bi.out) hb);have n6_:=Am (bP (by repeat (first|(with_reducible first|exact HB.out|apply oA|apply pN|apply o1|refine bS ?_ Bo.out|refine bS ?_ Bs.out)|exact HB.out)) hb);clear BG BH BK BL Bb Bi HB;revert n0_ n1_ n2_ n3_ n4_ n5_ n6_;intro BG BH BK BL Bb Bi HB;(try clear hb);(try clear hb2);(try clear hk);(try clear hi)))
     go_meet
     case rel=>exact ⟨_,(!t249),(by first|rfl|(simp;done)|(simp [*];done)),H',⟨by have:=BE.out;first|omega|exact nR _⟩,⟨by (with_reducible repeat (first|apply rA|apply rN|apply rD));exact rM BG.out (fun _ hk=>hk.2)⟩,⟨Kd.Q_of_R (by (with_reducible repeat (first|apply rA|apply rN|apply rD));exact rM BH.out (fun _ hk=>hk.2))⟩,⟨by (with_reducible repeat (first|apply rA|apply rN|apply rD));exact rM BK.out (fun _ hk=>hk.2)⟩,⟨Kd.Q_of_R (by (with_reducible repeat (first|apply rA|apply rN|apply rD));exact rM BL.out (fun _ hk=>hk.2))⟩,⟨by (with_reducible repeat (first|refine bN ?_ _|refine bD ?_|refine bA ?_ _));exact Bb.out⟩,⟨by (with_reducible repeat (first|refine bN ?_ _|refine bD ?_|refine bA ?_ _));exact Bi.out⟩,⟨by repeat (first|(with_reducible first|exact HB.out|apply oA|apply pN|apply o1|refine bS ?_ Bo.out|refine bS ?_ Bs.out)|exact HB.out)⟩⟩
    replace c24:=Bool.eq_false_iff.mpr c24
    subst c24
    have H1:(laws_FnLockWord.j1 kj2 l1 t240 t249 t258 true t242 t243 t246 t251 t252 t255)=some r:=by rw [if_neg (show ¬ (false=true) by decide)] at H;exact H
    clear H
    have H:=H1
    clear H1
    have H':=Am H
    clear H
    have Zd:=Bz.out
    have Ze:=BA.out
    have De:=cz0 Bb.out
    have Df:=cz1 Bb.out
    have Dg:=cz2 Bb.out
    have Dh:=bF Bb.out 0
    have Di:=bF Bb.out 1
    have Dj:=bF Bb.out 2
    have Dk:=cz0 Bi.out
    have Dl:=cz1 Bi.out
    have Dm:=cz2 Bi.out
    have Dn:=bF Bi.out 0
    have Do:=bF Bi.out 1
    have Dp:=bF Bi.out 2
    go_wp2_with (first|(go_at_call 35;(with_reducible refine (laws_qdLock.calls kj2 t242 _ _ t243 _ _ t246 t251 _ _ t252 _ _ t255 false _ ?side1 ?side2 ?side3 ?side4 ?side5 ?side6 ?side7 ?side8 A23.out).mono ?_);(case side1=>refine (rR (e:=57) (base:=w.heap.size) (ok:=fun k_=>(True∧some k_≠(.slice Ao20 t252.length co20:Value).ownBlock)) (n:=t243.length) (c:=co14) ?_).2.2;exact (by (with_reducible repeat (first|apply rA|apply rN|apply rD));exact (rM (rF (p:=⟨Bj,2,none⟩) (rF (p:=⟨Bj,1,none⟩) (rF (p:=⟨Bj,0,none⟩) (rT BG.out Bi.out (by decide)) (fun _ hk=>hk.2) (.int .i64 t251)) (fun _ hk=>hk.2) (.slice Ao20 t252.length co20)) (fun _ hk=>hk.2) (.slice Ao21 t255.length co21)) (fun _ h_=>h_.1))));(case side2=>exact (rR BG.out).2.1);(case side3=>refine (rR (e:=3) (base:=w.heap.size) (ok:=fun k_=>(True∧some k_≠(.slice Ao21 t255.length co21:Value).ownBlock)) (n:=t246.length) (c:=co15) ?_).2.2;exact (by (with_reducible repeat (first|apply rA|apply rN|apply rD));exact (rM (rF (p:=⟨Bj,2,none⟩) (rF (p:=⟨Bj,1,none⟩) (rF (p:=⟨Bj,0,none⟩) (rT BH.out Bi.out (by decide)) (fun _ hk=>hk.2) (.int .i64 t251)) (fun _ hk=>hk.2) (.slice Ao20 t252.length co20)) (fun _ hk=>hk.2) (.slice Ao21 t255.length co21)) (fun _ h_=>h_.1))));(case side4=>exact (rR BH.out).2.1);(case side5=>refine (rR (e:=57) (base:=w.heap.size) (ok:=fun k_=>(True∧some k_≠(.slice Ao14 t243.length co14:Value).ownBlock)) (n:=t252.length) (c:=co20) ?_).2.2;exact (by (with_reducible repeat (first|apply rA|apply rN|apply rD));exact (rM (rF (p:=⟨Bj,2,none⟩) (rF (p:=⟨Bj,1,none⟩) (rF (p:=⟨Bj,0,none⟩) (rT BK.out Bi.out (by decide)) (fun _ hk=>hk.2) (.int .i64 t251)) (fun _ hk=>hk.2) (.slice Ao20 t252.length co20)) (fun _ hk=>hk.2) (.slice Ao21 t255.length co21)) (fun _ h_=>h_.1))));(case side6=>exact (rR BK.out).2.1);(case side7=>refine (rR (e:=3) (base:=w.heap.size) (ok:=fun k_=>(True∧some k_≠(.slice Ao15 t246.length co15:Value).ownBlock)) (n:=t255.length) (c:=co21) ?_).2.2;exact (by (with_reducible repeat (first|apply rA|apply rN|apply rD));exact (rM (rF (p:=⟨Bj,2,none⟩) (rF (p:=⟨Bj,1,none⟩) (rF (p:=⟨Bj,0,none⟩) (rT BL.out Bi.out (by decide)) (fun _ hk=>hk.2) (.int .i64 t251)) (fun _ hk=>hk.2) (.slice Ao20 t252.length co20)) (fun _ hk=>hk.2) (.slice Ao21 t255.length co21)) (fun _ h_=>h_.1))));(case side8=>exact (rR BL.out).2.1);rintro e w32 ⟨rfl,hb⟩;have n0_:=Am (rB (by (with_reducible repeat (first|apply rA|apply rN|apply rD));exact (rM (rF (p:=⟨Bj,2,none⟩) (rF (p:=⟨Bj,1,none⟩) (rF (p:=⟨Bj,0,none⟩) (rT BG.out Bi.out (by decide)) (fun _ hk=>hk.2) (.int .i64 t251)) (fun _ hk=>hk.2) (.slice Ao20 t252.length co20)) (fun _ hk=>hk.2) (.slice Ao21 t255.length co21)) (fun _ h_=>h_.1))) hb);have n1_:=Am (rB (by (with_reducible repeat (first|apply rA|apply rN|apply rD));exact (rM (rF (p:=⟨Bj,2,none⟩) (rF (p:=⟨Bj,1,none⟩) (rF (p:=⟨Bj,0,none⟩) (rT BH.out Bi.out (by decide)) (fun _ hk=>hk.2) (.int .i64 t251)) (fun _ hk=>hk.2) (.slice Ao20 t252.length co20)) (fun _ hk=>hk.2) (.slice Ao21 t255.length co21)) (fun _ h_=>h_.1))) hb);have n2_:=Am (rB (by (with_reducible repeat (first|apply rA|apply rN|apply rD));exact (rM (rF (p:=⟨Bj,2,none⟩) (rF (p:=⟨Bj,1,none⟩) (rF (p:=⟨Bj,0,none⟩) (rT BK.out Bi.out (by decide)) (fun _ hk=>hk.2) (.int .i64 t251)) (fun _ hk=>hk.2) (.slice Ao20 t252.length co20)) (fun _ hk=>hk.2) (.slice Ao21 t255.length co21)) (fun _ h_=>h_.1))) hb);have n3_:=Am (rB (by (with_reducible repeat (first|apply rA|apply rN|apply rD));exact (rM (rF (p:=⟨Bj,2,none⟩) (rF (p:=⟨Bj,1,none⟩) (rF (p:=⟨Bj,0,none⟩) (rT BL.out Bi.out (by decide)) (fun _ hk=>hk.2) (.int .i64 t251)) (fun _ hk=>hk.2) (.slice Ao20 t252.length co20)) (fun _ hk=>hk.2) (.slice Ao21 t255.length co21)) (fun _ h_=>h_.1))) hb);have n4_:=Am (bB (g:=Bd) (o:=.cells #[.int .i64 t242,.slice Ao14 t243.length co14,.slice Ao15 t246.length co15] 51 (0,0)) (by (with_reducible repeat (first|refine bN ?_ _|refine bD ?_|refine bA ?_ _|refine bE ?_ Bz.out _));exact Bb.out) hb);have n5_:=Am (bB (g:=Bj) (o:=.cells #[.int .i64 t251,.slice Ao20 t252.length co20,.slice Ao21 t255.length co21] 51 (0,0)) (by (with_reducible repeat (first|refine bN ?_ _|refine bD ?_|refine bA ?_ _));refine bT (cs:=#[.int .i64 t251,.slice Ao20 t252.length co20,.slice none 0 0]) ?_ 2 _ rfl;(with_reducible repeat (first|refine bN ?_ _|refine bD ?_|refine bA ?_ _));refine bT (cs:=#[.int .i64 t251,.slice none 0 0,.slice none 0 0]) ?_ 1 _ rfl;(with_reducible repeat (first|refine bN ?_ _|refine bD ?_|refine bA ?_ _));refine bT (cs:=#[.int .i64 0,.slice none 0 0,.slice none 0 0]) ?_ 0 _ rfl;(with_reducible repeat (first|refine bN ?_ _|refine bD ?_|refine bA ?_ _));exact Bi.out) hb);have n6_:=Am (bP (by repeat (first|(with_reducible first|exact HB.out|apply oA|apply pN|apply o1|refine bS ?_ Bo.out|refine bS ?_ Bs.out)|exact HB.out)) hb);clear BG BH BK BL Bb Bi HB;revert n0_ n1_ n2_ n3_ n4_ n5_ n6_;intro BG BH BK BL Bb Bi HB;(try clear hb);(try clear hb2);(try clear hk);(try clear hi)))
    go_meet
    case rel=>exact ⟨_,(true),(by first|rfl|(simp;done)|(simp [*];done)),H',⟨by have:=BE.out;first|omega|exact nR _⟩,⟨by (with_reducible repeat (first|apply rA|apply rN|apply rD));exact rM BG.out (fun _ hk=>hk.2)⟩,⟨Kd.Q_of_R (by (with_reducible repeat (first|apply rA|apply rN|apply rD));exact rM BH.out (fun _ hk=>hk.2))⟩,⟨by (with_reducible repeat (first|apply rA|apply rN|apply rD));exact rM BK.out (fun _ hk=>hk.2)⟩,⟨Kd.Q_of_R (by (with_reducible repeat (first|apply rA|apply rN|apply rD));exact rM BL.out (fun _ hk=>hk.2))⟩,⟨by (with_reducible repeat (first|refine bN ?_ _|refine bD ?_|refine bA ?_ _));exact Bb.out⟩,⟨by (with_reducible repeat (first|refine bN ?_ _|refine bD ?_|refine bA ?_ _));exact Bi.out⟩,⟨by repeat (first|(with_reducible first|exact HB.out|apply oA|apply pN|apply o1|refine bS ?_ Bo.out|refine bS ?_ Bs.out)|exact HB.out)⟩⟩
   case rest =>
    clear HC9
    try clear c1
    try clear c2
    try clear p2
    try clear c3
    try clear c4
    try clear c4b0
    try clear c4b1
    try clear c5
    try clear c8
    try clear c18
    try clear c22
    try clear c22b0
    try clear c22b1
    try clear c22b2
    try clear c24
    try clear c25
    try clear c29
    try clear c32
    try clear BQ
    try clear BR
    try clear BS
    try clear BW
    try clear BX
    try clear BY
    try clear B2
    try clear B3
    try clear B4
    try clear B8
    try clear B9
    try clear Da
    try clear De
    try clear Df
    try clear Dg
    try clear Dk
    try clear Dl
    try clear Dm
    try clear BT
    try clear BU
    try clear BV
    try clear BZ
    try clear B0
    try clear B1
    try clear B5
    try clear B6
    try clear B7
    try clear Db
    try clear Dc
    try clear Dd
    try clear Dh
    try clear Di
    try clear Dj
    try clear Dn
    try clear Do
    try clear Dp
    try clear p2
    obtain ⟨kq,x55_8,rfl,HA,BF,Bc,Bf,Bg,Bh,Bb,Bi,HB⟩:=hcut
    cases kq with
   |zero=>exact absurd HA.out (by simp [laws_FnLockWord.j1])
   |succ kj8 =>
     have H:=HA.out
     clear HA
     simp only [laws_FnLockWord.j1] at H
     by_cases c33:x55_8=true
     ·subst c33
      have H1:(if (t249 == t258)=true then ((laws_qdLock.f kj8 t242 t243 t246 t251 t252 t255).bind fun t261=>(some t261)) else (some false))=some r:=by rw [if_pos rfl] at H;exact H
      clear H
      have H:=H1
      clear H1
      by_cases c34:(t249 == t258)=true
      rotate_left
      ·rw [if_neg c34] at H
       have c34b0:(t249 == t258)=false:=by simpa using c34
       (try (have c34b1:decide (t249=t258)=false:=by simpa using c34))
       (try (have c34b2:(t249 == t258)=false:=by simpa using c34))
       (try (have c34b3:¬ (t249=t258):=by simpa using c34))
       clear c34
       exact absurd ((oJ H).trans hT_.out) (by decide)
      rw [if_pos c34] at H
      have c34b0:(t249 == t258)=true:=c34
      (try (have c34b1:decide (t249=t258)=true:=by simpa using c34))
      (try (have c34b2:(t249 == t258)=true:=by simpa using c34))
      clear c34
      replace H:=oC H
      obtain ⟨t261,A350,H⟩:=H
      replace H:(some t261)=some r:=H
      have A35:=Am A350
      clear A350
      obtain rfl:=oJ H
      have Zf:=Bz.out
      have Zg:=BA.out
      have Dq:=cz0 Bb.out
      have Dr:=cz1 Bb.out
      have Ds:=cz2 Bb.out
      have Dt:=bF Bb.out 0
      have Du:=bF Bb.out 1
      have Dv:=bF Bb.out 2
      have Dw:=cz0 Bi.out
      have Dx:=cz1 Bi.out
      have Dy:=cz2 Bi.out
      have Dz:=bF Bi.out 0
      have DA:=bF Bi.out 1
      have DB:=bF Bi.out 2
      go_wp2_with (first|(go_at_call 35;(with_reducible refine (laws_qdLock.calls kj8 t242 _ _ t243 _ _ t246 t251 _ _ t252 _ _ t255 t261 _ ?side1 ?side2 ?side3 ?side4 ?side5 ?side6 ?side7 ?side8 A35.out).mono ?_);(case side1=>exact cL (rR Bc.out).2.2);(case side2=>exact (rR Bc.out).2.1);(case side3=>exact cL (qR Bf.out).2.2);(case side4=>exact (qR Bf.out).2.1);(case side5=>exact cL (rR Bg.out).2.2);(case side6=>exact (rR Bg.out).2.1);(case side7=>exact cL (qR Bh.out).2.2);(case side8=>exact (qR Bh.out).2.1);rintro e w39 ⟨rfl,hb⟩;have n0_:=Am (rB (rL Bc.out) hb);have n1_:=Am (Kd.Q_below (qL Bf.out) hb);have n2_:=Am (rB (rL Bg.out) hb);have n3_:=Am (Kd.Q_below (qL Bh.out) hb);have n4_:=Am (bX Bb.out hb);have n5_:=Am (bX Bi.out hb);have n6_:=Am (bP (by repeat (first|(with_reducible first|exact HB.out|apply oA|apply pN|apply o1|refine bS ?_ Bo.out|refine bS ?_ Bs.out)|exact HB.out)) hb);clear Bc Bf Bg Bh Bb Bi HB;revert n0_ n1_ n2_ n3_ n4_ n5_ n6_;intro Bc Bf Bg Bh Bb Bi HB;(try clear hb);(try clear hb2);(try clear hk);(try clear hi)))
      go_ret
      exact ⟨by first|rfl|(simp [errW_none,errW_some] <;> rfl)|(simp [*,errW_none,errW_some] <;> rfl),by repeat (first|(with_reducible first|exact HB.out|apply oA|apply pN|apply o1|refine bS ?_ Bo.out|refine bS ?_ Bs.out)|exact HB.out)⟩
     replace c33:=Bool.eq_false_iff.mpr c33
     subst c33
     have H1:(laws_FnLockWord.l0 kj8 l1 t240 0 t242 t243 t246)=some r:=by rw [if_neg (show ¬ (false=true) by decide)] at H;exact H
     clear H
     have H:=H1
     clear H1
     have H':=Am H
     clear H
     go_wp2
     go_loopg [11] kj8 (fun kq v11 w'=>∃ (x11_3:Int) (x251000_3:Int) (x251001_3:List (S57)) (x251002_3:List Int) (u251001:Value) (u251002:Value),v11=.int .i64 x11_3∧Aside0 (laws_FnLockWord.l0 kq l1 t240 x11_3 x251000_3 x251001_3 x251002_3=some r)∧Aside0 (kq≤kj8)∧Aside0 (Kd.R k57 57 w' w.heap.size (fun k_=>some k_≠((.slice Ao20 t252.length co20):Value).ownBlock) u251001 x251001_3)∧Aside0 (Kd.Q (Kd.int .i64) 3 w' w.heap.size (fun k_=>some k_≠((.slice Ao21 t255.length co21):Value).ownBlock) u251002 x251002_3)∧Aside0 (Kd.R k57 57 w' w.heap.size (fun k_=>some k_≠(u251001:Value).ownBlock) (.slice Ao20 t252.length co20) t252)∧Aside0 (Kd.Q (Kd.int .i64) 3 w' w.heap.size (fun k_=>some k_≠(u251002:Value).ownBlock) (.slice Ao21 t255.length co21) t255)∧Aside0 (w'.heap[Bd]?=some (.cells #[.int .i64 x251000_3,u251001,u251002] 51 (0,0)))∧Aside0 (w'.heap[Bj]?=some (.cells #[.int .i64 t251,(.slice Ao20 t252.length co20),(.slice Ao21 t255.length co21)] 51 (0,0)))∧Aside0 (Below w.heap.size w w'))
     case atStart=>exact ⟨(0),(t242),(t243),(t246),(.slice Ao14 t243.length co14),(.slice Ao15 t246.length co15),(by first|rfl|(simp;done)|(simp [*];done)),H',⟨nR _⟩,⟨by (with_reducible repeat (first|apply rA|apply rN|apply rD));exact Bc.out⟩,⟨by (with_reducible repeat (first|apply Kd.Q_alloc|apply Kd.Q_drewN|apply Kd.Q_drew));exact Bf.out⟩,⟨by (with_reducible repeat (first|apply rA|apply rN|apply rD));exact Bg.out⟩,⟨by (with_reducible repeat (first|apply Kd.Q_alloc|apply Kd.Q_drewN|apply Kd.Q_drew));exact Bh.out⟩,⟨by (with_reducible repeat (first|refine bN ?_ _|refine bD ?_|refine bA ?_ _));exact Bb.out⟩,⟨by (with_reducible repeat (first|refine bN ?_ _|refine bD ?_|refine bA ?_ _));exact Bi.out⟩,⟨by repeat (first|(with_reducible first|exact HB.out|apply oA|apply pN|apply o1|refine bS ?_ Bo.out|refine bS ?_ Bs.out)|exact HB.out)⟩⟩
     case round =>
      clear H'
      try clear c1
      try clear c2
      try clear p2
      try clear c3
      try clear c4
      try clear c4b0
      try clear c4b1
      try clear c5
      try clear c8
      try clear c18
      try clear c22
      try clear c22b0
      try clear c22b1
      try clear c22b2
      try clear c24
      try clear c25
      try clear c29
      try clear c32
      try clear c33
      try clear c34
      try clear c34b0
      try clear c34b1
      try clear c34b2
      try clear c36
      try clear BQ
      try clear BR
      try clear BS
      try clear BW
      try clear BX
      try clear BY
      try clear B2
      try clear B3
      try clear B4
      try clear B8
      try clear B9
      try clear Da
      try clear De
      try clear Df
      try clear Dg
      try clear Dk
      try clear Dl
      try clear Dm
      try clear Dq
      try clear Dr
      try clear Ds
      try clear Dw
      try clear Dx
      try clear Dy
      try clear BT
      try clear BU
      try clear BV
      try clear BZ
      try clear B0
      try clear B1
      try clear B5
      try clear B6
      try clear B7
      try clear Db
      try clear Dc
      try clear Dd
      try clear Dh
      try clear Di
      try clear Dj
      try clear Dn
      try clear Do
      try clear Dp
      try clear Dt
      try clear Du
      try clear Dv
      try clear Dz
      try clear DA
      try clear DB
      try clear p2
      obtain ⟨x11_3,x251000_3,x251001_3,x251002_3,u251001,u251002,rfl,HA,HK3,Bc,Bf,Bg,Bh,Bb,Bi,HB⟩:=hrel
      cases gk with
     |zero=>exact absurd HA.out (by simp [laws_FnLockWord.l0])
     |succ k3 =>
       have H:=HA.out
       clear HA
       simp only [laws_FnLockWord.l0] at H
       have HC40:=Am H
       clear H
       go_upto_region 9 with (fail)
       go_cut [71] (fun v71 wc=>∃ (kq:Nat) (x71_39:Bool),v71=.bool x71_39∧Aside0 (laws_FnLockWord.j3 kq l1 t240 x11_3 x71_39 x251000_3 x251001_3 x251002_3=some r)∧Aside0 (kq≤k3)∧Aside0 (Kd.R k57 57 wc w.heap.size (fun k_=>some k_≠((.slice Ao20 t252.length co20):Value).ownBlock) u251001 x251001_3)∧Aside0 (Kd.Q (Kd.int .i64) 3 wc w.heap.size (fun k_=>some k_≠((.slice Ao21 t255.length co21):Value).ownBlock) u251002 x251002_3)∧Aside0 (Kd.R k57 57 wc w.heap.size (fun k_=>some k_≠(u251001:Value).ownBlock) (.slice Ao20 t252.length co20) t252)∧Aside0 (Kd.Q (Kd.int .i64) 3 wc w.heap.size (fun k_=>some k_≠(u251002:Value).ownBlock) (.slice Ao21 t255.length co21) t255)∧Aside0 (wc.heap[Bd]?=some (.cells #[.int .i64 x251000_3,u251001,u251002] 51 (0,0)))∧Aside0 (wc.heap[Bj]?=some (.cells #[.int .i64 t251,(.slice Ao20 t252.length co20),(.slice Ao21 t255.length co21)] 51 (0,0)))∧Aside0 (Below w.heap.size w wc))
       case first =>
        have H:=HC40.out
        clear HC40
        by_cases c41:x11_3<(l1.length:Int)
        rotate_left
        ·rw [if_neg c41] at H
         have c41b0:decide (x11_3<(l1.length:Int))=false:=dF c41
         clear c41
         (first|rw [c41b0]|(simp only [i64_w,i32_w];rw [c41b0])|skip)
         have H':=Am H
         clear H
         go_wp2
         go_meet
         case rel=>exact ⟨_,(false),(by first|rfl|(simp;done)|(simp [*];done)),H',⟨by have:=BE.out;have:=BF.out;have:=HK3.out;first|omega|exact nR _⟩,⟨by (with_reducible repeat (first|apply rA|apply rN|apply rD));exact Bc.out⟩,⟨by (with_reducible repeat (first|apply Kd.Q_alloc|apply Kd.Q_drewN|apply Kd.Q_drew));exact Bf.out⟩,⟨by (with_reducible repeat (first|apply rA|apply rN|apply rD));exact Bg.out⟩,⟨by (with_reducible repeat (first|apply Kd.Q_alloc|apply Kd.Q_drewN|apply Kd.Q_drew));exact Bh.out⟩,⟨by (with_reducible repeat (first|refine bN ?_ _|refine bD ?_|refine bA ?_ _));exact Bb.out⟩,⟨by (with_reducible repeat (first|refine bN ?_ _|refine bD ?_|refine bA ?_ _));exact Bi.out⟩,⟨by repeat (first|(with_reducible first|exact HB.out|apply oA|apply pN|apply o1|refine bS ?_ Bo.out|refine bS ?_ Bs.out)|exact HB.out)⟩⟩
        rw [if_pos c41] at H
        have c41b0:decide (x11_3<(l1.length:Int))=true:=dT c41
        clear c41
        (first|rw [c41b0]|(simp only [i64_w,i32_w];rw [c41b0])|skip)
        have H':=Am H
        clear H
        go_wp2
        go_meet
        case rel=>exact ⟨_,(decide (x11_3<200)),(by first|rfl|(simp;done)|(simp [*];done)),H',⟨by have:=BE.out;have:=BF.out;have:=HK3.out;first|omega|exact nR _⟩,⟨by (with_reducible repeat (first|apply rA|apply rN|apply rD));exact Bc.out⟩,⟨by (with_reducible repeat (first|apply Kd.Q_alloc|apply Kd.Q_drewN|apply Kd.Q_drew));exact Bf.out⟩,⟨by (with_reducible repeat (first|apply rA|apply rN|apply rD));exact Bg.out⟩,⟨by (with_reducible repeat (first|apply Kd.Q_alloc|apply Kd.Q_drewN|apply Kd.Q_drew));exact Bh.out⟩,⟨by (with_reducible repeat (first|refine bN ?_ _|refine bD ?_|refine bA ?_ _));exact Bb.out⟩,⟨by (with_reducible repeat (first|refine bN ?_ _|refine bD ?_|refine bA ?_ _));exact Bi.out⟩,⟨by repeat (first|(with_reducible first|exact HB.out|apply oA|apply pN|apply o1|refine bS ?_ Bo.out|refine bS ?_ Bs.out)|exact HB.out)⟩⟩
       case rest =>
        clear HC40
        try clear c1
        try clear c2
        try clear p2
        try clear c3
        try clear c4
        try clear c4b0
        try clear c4b1
        try clear c5
        try clear c8
        try clear c18
        try clear c22
        try clear c22b0
        try clear c22b1
        try clear c22b2
        try clear c24
        try clear c25
        try clear c29
        try clear c32
        try clear c33
        try clear c34
        try clear c34b0
        try clear c34b1
        try clear c34b2
        try clear c36
        try clear c41
        try clear c41b0
        try clear BQ
        try clear BR
        try clear BS
        try clear BW
        try clear BX
        try clear BY
        try clear B2
        try clear B3
        try clear B4
        try clear B8
        try clear B9
        try clear Da
        try clear De
        try clear Df
        try clear Dg
        try clear Dk
        try clear Dl
        try clear Dm
        try clear Dq
        try clear Dr
        try clear Ds
        try clear Dw
        try clear Dx
        try clear Dy
        try clear BT
        try clear BU
        try clear BV
        try clear BZ
        try clear B0
        try clear B1
        try clear B5
        try clear B6
        try clear B7
        try clear Db
        try clear Dc
        try clear Dd
        try clear Dh
        try clear Di
        try clear Dj
        try clear Dn
        try clear Do
        try clear Dp
        try clear Dt
        try clear Du
        try clear Dv
        try clear Dz
        try clear DA
        try clear DB
        try clear p2
        obtain ⟨kq,x71_39,rfl,HA,BC,Bc,Bf,Bg,Bh,Bb,Bi,HB⟩:=hcut
        cases kq with
       |zero=>exact absurd HA.out (by simp [laws_FnLockWord.j3])
       |succ kj39 =>
         have H:=HA.out
         clear HA
         simp only [laws_FnLockWord.j3] at H
         by_cases c42:x71_39=true
         rotate_left
         ·replace c42:=Bool.eq_false_iff.mpr c42
          subst c42
          have H1:(some true)=some r:=by rw [if_neg (show ¬ (false=true) by decide)] at H;exact H
          clear H
          have H:=H1
          clear H1
          obtain rfl:=oJ H
          go_wp2
          go_ret
          exact ⟨by first|rfl|(simp [errW_none,errW_some] <;> rfl)|(simp [*,errW_none,errW_some] <;> rfl),by repeat (first|(with_reducible first|exact HB.out|apply oA|apply pN|apply o1|refine bS ?_ Bo.out|refine bS ?_ Bs.out)|exact HB.out)⟩

         subst c42
         have H1:(if 0≤x11_3 then (if x11_3<(l1.length:Int) then (if t240=0 then (none) else ((impl_LockStep.f kj39 x251000_3 x251001_3 x251002_3 (Int.tmod (wrap64 (rd l1 x11_3)) t240)).bind fun bt263=>(if bt263.2.2.2=true then (laws_FnLockWord.j4 kj39 l1 t240 x11_3 bt263.1 bt263.2.1 bt263.2.2.1) else (laws_FnLockWord.j4 kj39 l1 t240 x11_3 x251000_3 x251001_3 x251002_3)))) else (none)) else (none))=some r:=by rw [if_pos rfl] at H;exact H
         clear H
         have H:=H1
         clear H1
         by_cases c43:0≤x11_3
         rotate_left
         ·rw [if_neg c43] at H
          exact absurd H (by simp)
         rw [if_pos c43] at H
         have c43b0:decide (0≤x11_3)=true:=dT c43
         clear c43
         by_cases c44:x11_3<(l1.length:Int)
         rotate_left
         ·rw [if_neg c44] at H
          exact absurd H (by simp)
         rw [if_pos c44] at H
         have c44b0:decide (x11_3<(l1.length:Int))=true:=dT c44
         clear c44
         by_cases c45:t240=0
         ·rw [if_pos c45] at H
          exact absurd H (by simp)
         rw [if_neg c45] at H
         have c45b0:(t240 == 0)=false:=beq_eq_false_iff_ne.mpr c45
         have c45b1:(t240 != 0)=true:=bne_iff_ne.mpr c45
         replace H:=oC H
         obtain ⟨⟨t263,t264,t267,t270⟩,A460,H⟩:=H
         replace H:(if t270=true then (laws_FnLockWord.j4 kj39 l1 t240 x11_3 t263 t264 t267) else (laws_FnLockWord.j4 kj39 l1 t240 x11_3 x251000_3 x251001_3 x251002_3))=some r:=H
         have A46:=Am A460
         clear A460
         have HC47:=Am H
         clear H
         obtain ⟨Ao48,co48,eo48⟩:=rC Bc.out
         subst eo48
         obtain ⟨Ao49,co49,eo49,_⟩:=Kd.Q_slice Bf.out
         subst eo49
         try go_wp2
         have n0_:=Am (rD Bc.out)
         have n1_:=Am (Kd.Q_drew Bf.out)
         have n2_:=Am (rD Bg.out)
         have n3_:=Am (Kd.Q_drew Bh.out)
         have n4_:=Am (bD Bb.out)
         have n5_:=Am (bD Bi.out)
         have n6_:=Am (o1 HB.out)
         clear Bc
         clear Bf
         clear Bg
         clear Bh
         clear Bb
         clear Bi
         clear HB
         have Bc:=n0_
         have Bf:=n1_
         have Bg:=n2_
         have Bh:=n3_
         have Bb:=n4_
         have Bi:=n5_
         have HB:=n6_
         clear n0_ n1_ n2_ n3_ n4_ n5_ n6_
         have p262:0≤(x11_3:Int):=oE (by first|(with_reducible assumption)|assumption)
         have q262:x11_3<(l1.length:Int):=oE (by first|(with_reducible assumption)|assumption)
         obtain ⟨ad262,e262,hx262_0⟩:=Kd.at_int HR1.out x11_3 p262 q262
         have hw262_0:=hx262_0
         cases e262
         replace hx262_0:=(bW HB hx262_0:)
         replace p262:=eq_true p262
         replace q262:=eq_true q262
         refine start_ (n:=15) (S:=fun w'=>w'.cell? ⟨Bd,0,none⟩=some (.int .i64 x251000_3)∧w'.cell? ⟨Bd,1,none⟩=some (.slice Ao48 x251001_3.length co48)∧w'.cell? ⟨Bd,2,none⟩=some (.slice Ao49 x251002_3.length co49)∧w'.cell? (ad262.add (x11_3).toNat)=some (.int .u8 (rd l1 x11_3))) (ds:=[]) z8q0 (by kernel_rfl) rfl rfl ⟨(bC Bb.out 0).trans rfl,(bC Bb.out 1).trans rfl,(bC Bb.out 2).trans rfl,(bW HB hw262_0:)⟩ (fun hHeld=>?_);refine with_st laws_FnLockWord.tab11 laws_FnLockWord.bits11 (fun _ _ _ _ _ h=>h) (fun HT_=>?_)
         generalize wc.drew=w50 at Bc Bf Bg Bh Bb Bi HB hx262_0 hHeld ⊢
         refine pS 1 76 z8q1 HT_ rfl rfl (by kernel_rfl) (by rfl) (by intro w';go_simp;with_reducible rfl) (by simp only [Act.put,lA,lZ,lS,iw,jw];rfl) ?_
         refine pS 2 77 z8q2 HT_ rfl rfl (by kernel_rfl) (by rfl) (by intro w';go_simp;with_reducible rfl) (by simp only [Act.put,lA,lZ,lS,iw,jw];rfl) ?_
         refine pS 3 78 z8q3 HT_ rfl rfl (by kernel_rfl) (by rfl) (by intro w';go_simp;with_reducible rfl) (by simp only [Act.put,lA,lZ,lS,iw,jw];rfl) ?_
         refine pS 6 81 z8q4 HT_ rfl rfl (by kernel_rfl) (by rfl) (by intro w';go_simp;with_reducible rfl) (by simp only [Act.put,lA,lZ,lS,iw,jw];rfl) ?_
         refine tS 0 75 z8q5 HT_ hHeld rfl rfl (by kernel_rfl) (by rfl) (by rintro w' ⟨s0,s1,s2,s3⟩;go_simp;with_reducible rfl) (by simp only [Act.put,lA,lZ,lS,iw,jw];rfl) ?_
         refine tS 4 79 z8q6 HT_ hHeld rfl rfl (by kernel_rfl) (by rfl) (by rintro w' ⟨s0,s1,s2,s3⟩;go_simp;with_reducible rfl) (by simp only [Act.put,lA,lZ,lS,iw,jw];rfl) ?_
         refine pS 5 80 z8q7 HT_ rfl rfl (by kernel_rfl) (by rfl) (by intro w';go_simp;with_reducible rfl) (by simp only [Act.put,lA,lZ,lS,iw,jw];rfl) ?_
         refine pS 7 82 z8q8 HT_ rfl rfl (by kernel_rfl) (by rfl) (by intro w';go_simp;with_reducible rfl) (by simp only [Act.put,lA,lZ,lS,iw,jw];rfl) ?_
         refine join_ (σ:=Value × Value × Nat) 2 z8q9 (fun s_=>[(83,.tuple #[.agg #[.int .i64 t263,s_.1,s_.2.1],.bool t270]),(12,.pointer (some ⟨s_.2.2,0,none⟩)),(74,.tuple #[.agg #[.int .i64 t263,s_.1,s_.2.1],.bool t270]),(84,.agg #[.int .i64 t263,s_.1,s_.2.1]),(85,.bool t270)]) (fun s_ w'=>(w'.cell? ⟨Bd,0,none⟩=some (.int .i64 x251000_3)∧w'.cell? ⟨Bd,1,none⟩=some (.slice Ao48 x251001_3.length co48)∧w'.cell? ⟨Bd,2,none⟩=some (.slice Ao49 x251002_3.length co49)∧w'.cell? (ad262.add (x11_3).toNat)=some (.int .u8 (rd l1 x11_3)))∧(Kd.R k57 57 w' w.heap.size (fun k_=>some k_≠(.slice Ao48 x251001_3.length co48:Value).ownBlock∧some k_≠(.slice Ao20 t252.length co20:Value).ownBlock) s_.1 t264)∧(Kd.Q (Kd.int .i64) 3 w' w.heap.size (fun k_=>some k_≠(.slice Ao49 x251002_3.length co49:Value).ownBlock∧some k_≠(.slice Ao21 t255.length co21:Value).ownBlock) s_.2.1 t267)∧(Kd.R k57 57 w' w.heap.size (fun k_=>some k_≠(s_.1:Value).ownBlock∧some k_≠(.slice Ao20 t252.length co20:Value).ownBlock) (.slice Ao48 x251001_3.length co48) x251001_3)∧(Kd.Q (Kd.int .i64) 3 w' w.heap.size (fun k_=>some k_≠(s_.2.1:Value).ownBlock∧some k_≠(.slice Ao21 t255.length co21:Value).ownBlock) (.slice Ao49 x251002_3.length co49) x251002_3)∧(Kd.R k57 57 w' w.heap.size (fun k_=>some k_≠(s_.1:Value).ownBlock∧some k_≠(.slice Ao48 x251001_3.length co48:Value).ownBlock) (.slice Ao20 t252.length co20) t252)∧(Kd.Q (Kd.int .i64) 3 w' w.heap.size (fun k_=>some k_≠(s_.2.1:Value).ownBlock∧some k_≠(.slice Ao49 x251002_3.length co49:Value).ownBlock) (.slice Ao21 t255.length co21) t255)∧(w'.heap[Bd]?=some (.cells #[.int .i64 x251000_3,.slice Ao48 x251001_3.length co48,.slice Ao49 x251002_3.length co49] 51 (0,0)))∧(w'.heap[Bj]?=some (.cells #[.int .i64 t251,.slice Ao20 t252.length co20,.slice Ao21 t255.length co21] 51 (0,0)))∧(w'.heap[s_.2.2]?=some (.cells #[.int .i64 0,.slice none 0 0,.slice none 0 0] 51 (0,0)))∧(w.heap.size≤s_.2.2)∧(w.heap.size≤s_.2.2)∧(Bd≠s_.2.2)∧(s_.2.2≠Bd)∧(Bj≠s_.2.2)∧(s_.2.2≠Bj)∧(Below w.heap.size w w')) ?_ ?_
         rotate_left
         ·intro hCont
          refine two_ (i:=8) (j:=12) (Ni:=some 83) (Nj:=some 12) z8q10 z8q11 rfl rfl rfl rfl (two_of HT_.out (by kernel_rfl)) (by decide) (by decide) (fun K hK=>?_) (fun K hK=>?_)
          ·skip
           refine goes_ Try.func36 (by kernel_rfl) rfl #[.agg #[.int .i64 x251000_3,.slice Ao48 x251001_3.length co48,.slice Ao49 x251002_3.length co49],.int .i64 (Int.tmod (wrap64 (rd l1 x11_3)) t240)] (by rfl) rfl rfl (by (try simp only [lM,lC,lN]);first|done|rfl|(simp only [lD,lT];rfl)) ?_
           with_reducible refine (impl_LockStep.calls kj39 x251000_3 _ _ x251001_3 _ _ x251002_3 (Int.tmod (wrap64 (rd l1 x11_3)) t240) t263 t264 t267 t270 _ ?side1 ?side2 ?side3 ?side4 A46.out).mono ?_
           (case side1=>exact cL (rR Bc.out).2.2)
           (case side2=>exact (rR Bc.out).2.1)
           (case side3=>exact cL (qR Bf.out).2.2)
           (case side4=>exact (qR Bf.out).2.1)
           rintro e w51 ⟨v265,v268,rfl,ho0,ho1,hb⟩
           refine ⟨_,rfl,?_⟩
           have n0_:=Am (rX (rL Bc.out) (rZ ho0) hb)
           have n1_:=Am (Kd.Q_elder' (qL Bf.out) (Kd.Q_base ho1) hb)
           have n2_:=Am (rX (rL Bg.out) (rZ ho0) hb)
           have n3_:=Am (Kd.Q_elder' (qL Bh.out) (Kd.Q_base ho1) hb)
           have n4_:=Am (rW (rQ (rQ ho0 (rI (rL Bc.out))) (rI (rL Bg.out))) (bZ (by repeat (first|(with_reducible first|exact HB.out|apply oA|apply pN|apply o1|refine bS ?_ Bo.out|refine bS ?_ Bs.out)|exact HB.out))))
           have n5_:=Am (Kd.Q_lower (Kd.Q_new' (Kd.Q_new' ho1 (qI (qL Bf.out))) (qI (qL Bh.out))) (bZ (by repeat (first|(with_reducible first|exact HB.out|apply oA|apply pN|apply o1|refine bS ?_ Bo.out|refine bS ?_ Bs.out)|exact HB.out))))
           have n6_:=Am (bX Bb.out hb)
           have n7_:=Am (bX Bi.out hb)
           have n8_:=Am (bP (by repeat (first|(with_reducible first|exact HB.out|apply oA|apply pN|apply o1|refine bS ?_ Bo.out|refine bS ?_ Bs.out)|exact HB.out)) hb)
           clear Bc
           clear Bf
           clear Bg
           clear Bh
           clear Bb
           clear Bi
           clear HB
           have Bc:=n0_
           have Bf:=n1_
           have Bg:=n2_
           have Bh:=n3_
           have BO:=n4_
           have BP:=n5_
           have Bb:=n6_
           have Bi:=n7_
           have HB:=n8_
           clear n0_ n1_ n2_ n3_ n4_ n5_ n6_ n7_ n8_
           (try clear hb)
           (try clear hb2)
           (try clear hk)
           (try clear hi)
           (try clear ho0)
           (try clear ho1)
           refine hK.out _ _ ⟨(bC Bb.out 0).trans rfl,(bC Bb.out 1).trans rfl,(bC Bb.out 2).trans rfl,(bW HB hw262_0:)⟩ (fun hHeld=>?_)
           clear hK K
           refine norm_ (by show Act.put _ (some 83) _=_;simp only [Act.put,lA,lZ,lS,iw,jw];rfl) ?_
           refine pS 9 74 z8q12 HT_ rfl rfl (by kernel_rfl) (by rfl) (by intro w';go_simp;with_reducible rfl) (by simp only [Act.put,lA,lZ,lS,iw,jw];rfl) ?_
           refine pS 10 84 z8q13 HT_ rfl rfl (by kernel_rfl) (by rfl) (by intro w';go_simp;with_reducible rfl) (by simp only [Act.put,lA,lZ,lS,iw,jw];rfl) ?_
           refine pS 11 85 z8q14 HT_ rfl rfl (by kernel_rfl) (by rfl) (by intro w';go_simp;with_reducible rfl) (by simp only [Act.put,lA,lZ,lS,iw,jw];rfl) ?_
           refine oS 12 12 z8q9 HT_ rfl rfl (by kernel_rfl) (by decide) (fun K hK=>?_)
           refine box_step ?hg (N:=12) ?hd (cs:=#[.int .i64 0,.slice none 0 0,.slice none 0 0]) (t:=51) ?hr ?_;(case hd=>rfl);(case hg=>rfl);(case hr=>first|(go_simp;done)|(go_simp;rfl))
           intro Bk hg w52 hbox hb
           have n0_:=Am (rB (rL Bc.out) hb)
           have n1_:=Am (Kd.Q_below (qL Bf.out) hb)
           have n2_:=Am (rB (rL Bg.out) hb)
           have n3_:=Am (Kd.Q_below (qL Bh.out) hb)
           have n4_:=Am (rB (rL BO.out) hb)
           have n5_:=Am (Kd.Q_below (qL BP.out) hb)
           have n6_:=Am (bX Bb.out hb)
           have n7_:=Am (bX Bi.out hb)
           have n8_:=Am (bP (by repeat (first|(with_reducible first|exact HB.out|apply oA|apply pN|apply o1|refine bS ?_ Bo.out|refine bS ?_ Bs.out)|exact HB.out)) hb)
           have n9_:=Am (hbox)
           have n10_:=Am ((by rw [hg];exact (bZ (by repeat (first|(with_reducible first|exact HB.out|apply oA|apply pN|apply o1|refine bS ?_ Bo.out|refine bS ?_ Bs.out)|exact HB.out))):w.heap.size≤Bk))
           have n11_:=Am ((by rw [hg];exact (bZ (by repeat (first|(with_reducible first|exact HB.out|apply oA|apply pN|apply o1|refine bS ?_ Bo.out|refine bS ?_ Bs.out)|exact HB.out))):w.heap.size≤Bk))
           have n12_:=Am ((nL Bb.out hg))
           have n13_:=Am ((nG Bb.out hg))
           have n14_:=Am ((nL Bi.out hg))
           have n15_:=Am ((nG Bi.out hg))
           clear Bc
           clear Bf
           clear Bg
           clear Bh
           clear BO
           clear BP
           clear Bb
           clear Bi
           clear HB
           have Bc:=n0_
           have Bf:=n1_
           have Bg:=n2_
           have Bh:=n3_
           have BO:=n4_
           have BP:=n5_
           have Bb:=n6_
           have Bi:=n7_
           have HB:=n8_
           have Bl:=n9_
           have BM:=n10_
           have Bt:=n11_
           have Bx:=n12_
           have By:=n13_
           have BJ:=n14_
           have BN:=n15_
           clear n0_ n1_ n2_ n3_ n4_ n5_ n6_ n7_ n8_ n9_ n10_ n11_ n12_ n13_ n14_ n15_
           clear hb hbox hg
           refine hK.out _ _ ⟨(bC Bb.out 0).trans rfl,(bC Bb.out 1).trans rfl,(bC Bb.out 2).trans rfl,(bW HB hw262_0:)⟩ (fun hHeld=>?_)
           clear hK K
           refine norm_ (by show Act.put _ (some 12) _=_;simp only [Act.put,lA,lZ,lS,iw,jw];rfl) ?_
           exact norm_ (by simp only [putAll,Act.put,lA,lZ,lS]) (hCont (v265,v268,Bk) _ ⟨hHeld,(by (with_reducible repeat (first|apply rA|apply rN|apply rD));exact rM BO.out (fun _ hk=>⟨hk.1.2,hk.2⟩)),(by (with_reducible repeat (first|apply Kd.Q_alloc|apply Kd.Q_drewN|apply Kd.Q_drew));exact qM BP.out (fun _ hk=>⟨hk.1.2,hk.2⟩)),(by (with_reducible repeat (first|apply rA|apply rN|apply rD));exact rM Bc.out (fun _ hk=>⟨hk.2,hk.1⟩)),(by (with_reducible repeat (first|apply Kd.Q_alloc|apply Kd.Q_drewN|apply Kd.Q_drew));exact qM Bf.out (fun _ hk=>⟨hk.2,hk.1⟩)),(by (with_reducible repeat (first|apply rA|apply rN|apply rD));exact rM Bg.out (fun _ hk=>⟨hk.2,hk.1⟩)),(by (with_reducible repeat (first|apply Kd.Q_alloc|apply Kd.Q_drewN|apply Kd.Q_drew));exact qM Bh.out (fun _ hk=>⟨hk.2,hk.1⟩)),(bL Bb.out),(bL Bi.out),(bL Bl.out),BM.out,Bt.out,Bx.out,By.out,BJ.out,BN.out,(by repeat (first|(with_reducible first|exact HB.out|apply oA|apply pN|apply o1|refine bS ?_ Bo.out|refine bS ?_ Bs.out|refine bS ?_ Bt.out)|exact HB.out))⟩)
          ·skip
           refine box_step ?hg (N:=12) ?hd (cs:=#[.int .i64 0,.slice none 0 0,.slice none 0 0]) (t:=51) ?hr ?_;(case hd=>rfl);(case hg=>rfl);(case hr=>first|(go_simp;done)|(go_simp;rfl))
           intro Bk hg w51 hbox hb
           have n0_:=Am (rB (rL Bc.out) hb)
           have n1_:=Am (Kd.Q_below (qL Bf.out) hb)
           have n2_:=Am (rB (rL Bg.out) hb)
           have n3_:=Am (Kd.Q_below (qL Bh.out) hb)
           have n4_:=Am (bX Bb.out hb)
           have n5_:=Am (bX Bi.out hb)
           have n6_:=Am (bP (by repeat (first|(with_reducible first|exact HB.out|apply oA|apply pN|apply o1|refine bS ?_ Bo.out|refine bS ?_ Bs.out)|exact HB.out)) hb)
           have n7_:=Am (hbox)
           have n8_:=Am ((by rw [hg];exact (bZ (by repeat (first|(with_reducible first|exact HB.out|apply oA|apply pN|apply o1|refine bS ?_ Bo.out|refine bS ?_ Bs.out)|exact HB.out))):w.heap.size≤Bk))
           have n9_:=Am ((by rw [hg];exact (bZ (by repeat (first|(with_reducible first|exact HB.out|apply oA|apply pN|apply o1|refine bS ?_ Bo.out|refine bS ?_ Bs.out)|exact HB.out))):w.heap.size≤Bk))
           have n10_:=Am ((nL Bb.out hg))
           have n11_:=Am ((nG Bb.out hg))
           have n12_:=Am ((nL Bi.out hg))
           have n13_:=Am ((nG Bi.out hg))
           clear Bc
           clear Bf
           clear Bg
           clear Bh
           clear Bb
           clear Bi
           clear HB
           have Bc:=n0_
           have Bf:=n1_
           have Bg:=n2_
           have Bh:=n3_
           have Bb:=n4_
           have Bi:=n5_
           have HB:=n6_
           have Bl:=n7_
           have BM:=n8_
           have Bt:=n9_
           have Bx:=n10_
           have By:=n11_
           have BJ:=n12_
           have BN:=n13_
           clear n0_ n1_ n2_ n3_ n4_ n5_ n6_ n7_ n8_ n9_ n10_ n11_ n12_ n13_
           clear hb hbox hg
           refine hK.out _ _ ⟨(bC Bb.out 0).trans rfl,(bC Bb.out 1).trans rfl,(bC Bb.out 2).trans rfl,(bW HB hw262_0:)⟩ (fun hHeld=>?_)
           clear hK K
           refine norm_ (by show Act.put _ (some 12) _=_;simp only [Act.put,lA,lZ,lS,iw,jw];rfl) ?_
           refine oS 8 83 z8q15 HT_ rfl rfl (by kernel_rfl) (by decide) (fun K hK=>?_)
           refine goes_ Try.func36 (by kernel_rfl) rfl #[.agg #[.int .i64 x251000_3,.slice Ao48 x251001_3.length co48,.slice Ao49 x251002_3.length co49],.int .i64 (Int.tmod (wrap64 (rd l1 x11_3)) t240)] (by rfl) rfl rfl (by (try simp only [lM,lC,lN]);first|done|rfl|(simp only [lD,lT];rfl)) ?_
           with_reducible refine (impl_LockStep.calls kj39 x251000_3 _ _ x251001_3 _ _ x251002_3 (Int.tmod (wrap64 (rd l1 x11_3)) t240) t263 t264 t267 t270 _ ?side1 ?side2 ?side3 ?side4 A46.out).mono ?_
           (case side1=>exact cL (rR Bc.out).2.2)
           (case side2=>exact (rR Bc.out).2.1)
           (case side3=>exact cL (qR Bf.out).2.2)
           (case side4=>exact (qR Bf.out).2.1)
           rintro e w52 ⟨v265,v268,rfl,ho0,ho1,hb⟩
           refine ⟨_,rfl,?_⟩
           have n0_:=Am (rX (rL Bc.out) (rZ ho0) hb)
           have n1_:=Am (Kd.Q_elder' (qL Bf.out) (Kd.Q_base ho1) hb)
           have n2_:=Am (rX (rL Bg.out) (rZ ho0) hb)
           have n3_:=Am (Kd.Q_elder' (qL Bh.out) (Kd.Q_base ho1) hb)
           have n4_:=Am (rW (rQ (rQ ho0 (rI (rL Bc.out))) (rI (rL Bg.out))) (bZ (by repeat (first|(with_reducible first|exact HB.out|apply oA|apply pN|apply o1|refine bS ?_ Bo.out|refine bS ?_ Bs.out|refine bS ?_ Bt.out)|exact HB.out))))
           have n5_:=Am (Kd.Q_lower (Kd.Q_new' (Kd.Q_new' ho1 (qI (qL Bf.out))) (qI (qL Bh.out))) (bZ (by repeat (first|(with_reducible first|exact HB.out|apply oA|apply pN|apply o1|refine bS ?_ Bo.out|refine bS ?_ Bs.out|refine bS ?_ Bt.out)|exact HB.out))))
           have n6_:=Am (bX Bb.out hb)
           have n7_:=Am (bX Bi.out hb)
           have n8_:=Am (bX Bl.out hb)
           have n9_:=Am (bP (by repeat (first|(with_reducible first|exact HB.out|apply oA|apply pN|apply o1|refine bS ?_ Bo.out|refine bS ?_ Bs.out|refine bS ?_ Bt.out)|exact HB.out)) hb)
           clear Bc
           clear Bf
           clear Bg
           clear Bh
           clear Bb
           clear Bi
           clear Bl
           clear HB
           have Bc:=n0_
           have Bf:=n1_
           have Bg:=n2_
           have Bh:=n3_
           have BO:=n4_
           have BP:=n5_
           have Bb:=n6_
           have Bi:=n7_
           have Bl:=n8_
           have HB:=n9_
           clear n0_ n1_ n2_ n3_ n4_ n5_ n6_ n7_ n8_ n9_
           (try clear hb)
           (try clear hb2)
           (try clear hk)
           (try clear hi)
           (try clear ho0)
           (try clear ho1)
           refine hK.out _ _ ⟨(bC Bb.out 0).trans rfl,(bC Bb.out 1).trans rfl,(bC Bb.out 2).trans rfl,(bW HB hw262_0:)⟩ (fun hHeld=>?_)
           clear hK K
           refine norm_ (by show Act.put _ (some 83) _=_;simp only [Act.put,lA,lZ,lS,iw,jw];rfl) ?_
           refine pS 9 74 z8q16 HT_ rfl rfl (by kernel_rfl) (by rfl) (by intro w';go_simp;with_reducible rfl) (by simp only [Act.put,lA,lZ,lS,iw,jw];rfl) ?_
           refine pS 10 84 z8q17 HT_ rfl rfl (by kernel_rfl) (by rfl) (by intro w';go_simp;with_reducible rfl) (by simp only [Act.put,lA,lZ,lS,iw,jw];rfl) ?_
           refine pS 11 85 z8q9 HT_ rfl rfl (by kernel_rfl) (by rfl) (by intro w';go_simp;with_reducible rfl) (by simp only [Act.put,lA,lZ,lS,iw,jw];rfl) ?_
           exact norm_ (by simp only [putAll,Act.put,lA,lZ,lS]) (hCont (v265,v268,Bk) _ ⟨hHeld,(by (with_reducible repeat (first|apply rA|apply rN|apply rD));exact rM BO.out (fun _ hk=>⟨hk.1.2,hk.2⟩)),(by (with_reducible repeat (first|apply Kd.Q_alloc|apply Kd.Q_drewN|apply Kd.Q_drew));exact qM BP.out (fun _ hk=>⟨hk.1.2,hk.2⟩)),(by (with_reducible repeat (first|apply rA|apply rN|apply rD));exact rM Bc.out (fun _ hk=>⟨hk.2,hk.1⟩)),(by (with_reducible repeat (first|apply Kd.Q_alloc|apply Kd.Q_drewN|apply Kd.Q_drew));exact qM Bf.out (fun _ hk=>⟨hk.2,hk.1⟩)),(by (with_reducible repeat (first|apply rA|apply rN|apply rD));exact rM Bg.out (fun _ hk=>⟨hk.2,hk.1⟩)),(by (with_reducible repeat (first|apply Kd.Q_alloc|apply Kd.Q_drewN|apply Kd.Q_drew));exact qM Bh.out (fun _ hk=>⟨hk.2,hk.1⟩)),(bL Bb.out),(bL Bi.out),(bL Bl.out),BM.out,Bt.out,Bx.out,By.out,BJ.out,BN.out,(by repeat (first|(with_reducible first|exact HB.out|apply oA|apply pN|apply o1|refine bS ?_ Bo.out|refine bS ?_ Bs.out|refine bS ?_ Bt.out)|exact HB.out))⟩)
         rintro ⟨v265,v268,Bk⟩ w53 ⟨hS_,h0_,h1_,h2_,h3_,h4_,h5_,h6_,h7_,h8_,h9_,h10_,h11_,h12_,h13_,h14_,h15_⟩
         have n0_:Aside0 (Kd.R k57 57 w53 w.heap.size (fun k_=>some k_≠(.slice Ao48 x251001_3.length co48:Value).ownBlock∧some k_≠(.slice Ao20 t252.length co20:Value).ownBlock) v265 t264):=⟨h0_⟩
         have n1_:Aside0 (Kd.Q (Kd.int .i64) 3 w53 w.heap.size (fun k_=>some k_≠(.slice Ao49 x251002_3.length co49:Value).ownBlock∧some k_≠(.slice Ao21 t255.length co21:Value).ownBlock) v268 t267):=⟨h1_⟩
         have n2_:Aside0 (Kd.R k57 57 w53 w.heap.size (fun k_=>some k_≠(v265:Value).ownBlock∧some k_≠(.slice Ao20 t252.length co20:Value).ownBlock) (.slice Ao48 x251001_3.length co48) x251001_3):=⟨h2_⟩
         have n3_:Aside0 (Kd.Q (Kd.int .i64) 3 w53 w.heap.size (fun k_=>some k_≠(v268:Value).ownBlock∧some k_≠(.slice Ao21 t255.length co21:Value).ownBlock) (.slice Ao49 x251002_3.length co49) x251002_3):=⟨h3_⟩
         have n4_:Aside0 (Kd.R k57 57 w53 w.heap.size (fun k_=>some k_≠(v265:Value).ownBlock∧some k_≠(.slice Ao48 x251001_3.length co48:Value).ownBlock) (.slice Ao20 t252.length co20) t252):=⟨h4_⟩
         have n5_:Aside0 (Kd.Q (Kd.int .i64) 3 w53 w.heap.size (fun k_=>some k_≠(v268:Value).ownBlock∧some k_≠(.slice Ao49 x251002_3.length co49:Value).ownBlock) (.slice Ao21 t255.length co21) t255):=⟨h5_⟩
         have n6_:Aside0 (w53.heap[Bd]?=some (.cells #[.int .i64 x251000_3,.slice Ao48 x251001_3.length co48,.slice Ao49 x251002_3.length co49] 51 (0,0))):=⟨h6_⟩
         have n7_:Aside0 (w53.heap[Bj]?=some (.cells #[.int .i64 t251,.slice Ao20 t252.length co20,.slice Ao21 t255.length co21] 51 (0,0))):=⟨h7_⟩
         have n8_:Aside0 (w53.heap[Bk]?=some (.cells #[.int .i64 0,.slice none 0 0,.slice none 0 0] 51 (0,0))):=⟨h8_⟩
         have n9_:Aside0 (w.heap.size≤Bk):=⟨h9_⟩
         have n10_:Aside0 (w.heap.size≤Bk):=⟨h10_⟩
         have n11_:Aside0 (Bd≠Bk):=⟨h11_⟩
         have n12_:Aside0 (Bk≠Bd):=⟨h12_⟩
         have n13_:Aside0 (Bj≠Bk):=⟨h13_⟩
         have n14_:Aside0 (Bk≠Bj):=⟨h14_⟩
         have n15_:Aside0 (Below w.heap.size w w53):=⟨h15_⟩
         clear Bc
         clear Bf
         clear Bg
         clear Bh
         clear Bb
         clear Bi
         clear HB
         clear h0_ h1_ h2_ h3_ h4_ h5_ h6_ h7_ h8_ h9_ h10_ h11_ h12_ h13_ h14_ h15_
         have BO:=n0_
         have BP:=n1_
         have Bc:=n2_
         have Bf:=n3_
         have Bg:=n4_
         have Bh:=n5_
         have Bb:=n6_
         have Bi:=n7_
         have Bl:=n8_
         have BM:=n9_
         have Bt:=n10_
         have Bx:=n11_
         have By:=n12_
         have BJ:=n13_
         have BN:=n14_
         have HB:=n15_
         clear n0_ n1_ n2_ n3_ n4_ n5_ n6_ n7_ n8_ n9_ n10_ n11_ n12_ n13_ n14_ n15_
         have hHeld:w53.cell? ⟨Bd,0,none⟩=some (.int .i64 x251000_3)∧w53.cell? ⟨Bd,1,none⟩=some (.slice Ao48 x251001_3.length co48)∧w53.cell? ⟨Bd,2,none⟩=some (.slice Ao49 x251002_3.length co49)∧w53.cell? (ad262.add (x11_3).toNat)=some (.int .u8 (rd l1 x11_3)):=hS_
         obtain ⟨Ao55,co55,eo55⟩:=rC BO.out
         (first|subst eo55|(injection eo55 with f1_ f2_ f3_;have f4_:=f1_.symm;have f5_:=f3_.symm;clear f1_ f2_ f3_;subst f4_;subst f5_))
         obtain ⟨Ao57,co57,eo57,_⟩:=Kd.Q_slice BP.out
         (first|subst eo57|(injection eo57 with f1_ f2_ f3_;have f4_:=f1_.symm;have f5_:=f3_.symm;clear f1_ f2_ f3_;subst f4_;subst f5_))
         refine norm_ (by simp only [putAll,Act.put,lA,lZ,lS];rfl) ?_
         refine oU 13 none z8q18 HT_ rfl rfl (by kernel_rfl) (by decide) (fun K hK=>?_)
         have hs54:=cz0 Bl.out
         have hfs54:=bF Bl.out 0
         have hns54_0:=Bx.out
         have hns54_1:=BJ.out
         have hms54_0:=By.out
         have hms54_1:=BN.out
         have hs56:=cz1 Bl.out
         have hfs56:=bF Bl.out 1
         have hns56_0:=Bx.out
         have hns56_1:=BJ.out
         have hms56_0:=By.out
         have hms56_1:=BN.out
         have hs58:=cz2 Bl.out
         have hfs58:=bF Bl.out 2
         have hns58_0:=Bx.out
         have hns58_1:=BJ.out
         have hms58_0:=By.out
         have hms58_1:=BN.out
         refine skip_ (w1:=?_) (by rfl) rfl ?_ ?_
         rotate_left;(go_simp;rfl)
         refine hK.out _ _ ⟨((cF (p:=⟨Bk,_,none⟩) Bx.out _).trans (((cF (p:=⟨Bk,_,none⟩) Bx.out _).trans (((cF (p:=⟨Bk,_,none⟩) Bx.out _).trans (hHeld.1)))))),((cF (p:=⟨Bk,_,none⟩) Bx.out _).trans (((cF (p:=⟨Bk,_,none⟩) Bx.out _).trans (((cF (p:=⟨Bk,_,none⟩) Bx.out _).trans (hHeld.2.1)))))),((cF (p:=⟨Bk,_,none⟩) Bx.out _).trans (((cF (p:=⟨Bk,_,none⟩) Bx.out _).trans (((cF (p:=⟨Bk,_,none⟩) Bx.out _).trans (hHeld.2.2.1)))))),((cF (p:=⟨Bk,_,none⟩) (by first|exact nI (Nat.lt_of_lt_of_le (by have:=World.block_lt_of_cell? _ _ hw262_0;first|rwa [aB] at this|exact this) BM.out)|(rw [aB];exact nI (Nat.lt_of_lt_of_le (by have:=World.block_lt_of_cell? _ _ hw262_0;first|rwa [aB] at this|exact this) BM.out))|(show (Addr.add _ _).block≠_;rw [aB];exact nI (Nat.lt_of_lt_of_le (by have:=World.block_lt_of_cell? _ _ hw262_0;first|rwa [aB] at this|exact this) BM.out))|(dsimp only;exact nI (Nat.lt_of_lt_of_le (by have:=World.block_lt_of_cell? _ _ hw262_0;first|rwa [aB] at this|exact this) BM.out))) _).trans (((cF (p:=⟨Bk,_,none⟩) (by first|exact nI (Nat.lt_of_lt_of_le (by have:=World.block_lt_of_cell? _ _ hw262_0;first|rwa [aB] at this|exact this) BM.out)|(rw [aB];exact nI (Nat.lt_of_lt_of_le (by have:=World.block_lt_of_cell? _ _ hw262_0;first|rwa [aB] at this|exact this) BM.out))|(show (Addr.add _ _).block≠_;rw [aB];exact nI (Nat.lt_of_lt_of_le (by have:=World.block_lt_of_cell? _ _ hw262_0;first|rwa [aB] at this|exact this) BM.out))|(dsimp only;exact nI (Nat.lt_of_lt_of_le (by have:=World.block_lt_of_cell? _ _ hw262_0;first|rwa [aB] at this|exact this) BM.out))) _).trans (((cF (p:=⟨Bk,_,none⟩) (by first|exact nI (Nat.lt_of_lt_of_le (by have:=World.block_lt_of_cell? _ _ hw262_0;first|rwa [aB] at this|exact this) BM.out)|(rw [aB];exact nI (Nat.lt_of_lt_of_le (by have:=World.block_lt_of_cell? _ _ hw262_0;first|rwa [aB] at this|exact this) BM.out))|(show (Addr.add _ _).block≠_;rw [aB];exact nI (Nat.lt_of_lt_of_le (by have:=World.block_lt_of_cell? _ _ hw262_0;first|rwa [aB] at this|exact this) BM.out))|(dsimp only;exact nI (Nat.lt_of_lt_of_le (by have:=World.block_lt_of_cell? _ _ hw262_0;first|rwa [aB] at this|exact this) BM.out))) _).trans (hHeld.2.2.2))))))⟩ (fun hHeld=>?_)
         clear hK K
         refine pS 14 13 z8q19 HT_ rfl rfl (by kernel_rfl) (by rfl) (by intro w';go_simp;with_reducible rfl) (by simp only [Act.put,lA,lZ,lS,iw,jw];rfl) ?_
         refine done_ (done_of HT_.out (by kernel_rfl)) ?_
         go_upto_if 86 with (fail)
         go_cut [] (fun wc=>∃ (kq:Nat) (x251000_46:Int) (x251001_46:List (S57)) (x251002_46:List Int) (u251001:Value) (u251002:Value),Aside0 (laws_FnLockWord.j4 kq l1 t240 x11_3 x251000_46 x251001_46 x251002_46=some r)∧Aside0 (kq≤kj39)∧Aside0 (Kd.R k57 57 wc w.heap.size (fun k_=>some k_≠((.slice Ao20 t252.length co20):Value).ownBlock) u251001 x251001_46)∧Aside0 (Kd.Q (Kd.int .i64) 3 wc w.heap.size (fun k_=>some k_≠((.slice Ao21 t255.length co21):Value).ownBlock) u251002 x251002_46)∧Aside0 (Kd.R k57 57 wc w.heap.size (fun k_=>some k_≠(u251001:Value).ownBlock∧some k_≠((.slice Ao55 t264.length co55):Value).ownBlock) (.slice Ao20 t252.length co20) t252)∧Aside0 (Kd.Q (Kd.int .i64) 3 wc w.heap.size (fun k_=>some k_≠(u251002:Value).ownBlock∧some k_≠((.slice Ao57 t267.length co57):Value).ownBlock) (.slice Ao21 t255.length co21) t255)∧Aside0 (Kd.R k57 57 wc w.heap.size (fun k_=>some k_≠((.slice Ao20 t252.length co20):Value).ownBlock) (.slice Ao55 t264.length co55) t264)∧Aside0 (Kd.Q (Kd.int .i64) 3 wc w.heap.size (fun k_=>some k_≠((.slice Ao21 t255.length co21):Value).ownBlock) (.slice Ao57 t267.length co57) t267)∧Aside0 (wc.heap[Bd]?=some (.cells #[.int .i64 x251000_46,u251001,u251002] 51 (0,0)))∧Aside0 (wc.heap[Bj]?=some (.cells #[.int .i64 t251,(.slice Ao20 t252.length co20),(.slice Ao21 t255.length co21)] 51 (0,0)))∧Aside0 (wc.heap[Bk]?=some (.cells #[.int .i64 t263,(.slice Ao55 t264.length co55),(.slice Ao57 t267.length co57)] 51 (0,0)))∧Aside0 (Below w.heap.size w wc))
         case first =>
          have H:=HC47.out
          clear HC47
          by_cases c59:t270=true
          rotate_left
          ·replace c59:=Bool.eq_false_iff.mpr c59
           subst c59
           have H1:(laws_FnLockWord.j4 kj39 l1 t240 x11_3 x251000_3 x251001_3 x251002_3)=some r:=by rw [if_neg (show ¬ (false=true) by decide)] at H;exact H
           clear H
           have H:=H1
           clear H1
           have H':=Am H
           clear H
           go_wp2
           go_meet
           case rel=>exact ⟨_,(x251000_3),(x251001_3),(x251002_3),(.slice Ao48 x251001_3.length co48),(.slice Ao49 x251002_3.length co49),H',⟨by have:=BE.out;have:=BF.out;have:=HK3.out;have:=BC.out;first|omega|exact nR _⟩,⟨by (with_reducible repeat (first|apply rA|apply rN|apply rD));exact rM (rF (p:=⟨Bk,2,none⟩) (rF (p:=⟨Bk,1,none⟩) (rF (p:=⟨Bk,0,none⟩) (rT Bc.out Bl.out (by decide)) (fun _ hk=>hk.2) (.int .i64 t263)) (fun _ hk=>hk.2) (.slice Ao55 t264.length co55)) (fun _ hk=>hk.2) (.slice Ao57 t267.length co57)) (fun _ hk=>hk.1.2)⟩,⟨by (with_reducible repeat (first|apply Kd.Q_alloc|apply Kd.Q_drewN|apply Kd.Q_drew));exact qM (Kd.Q_far (p:=⟨Bk,2,none⟩) (Kd.Q_far (p:=⟨Bk,1,none⟩) (Kd.Q_far (p:=⟨Bk,0,none⟩) (Kd.Q_types Bf.out Bl.out (by decide)) (fun _ hk=>hk.2) (.int .i64 t263)) (fun _ hk=>hk.2) (.slice Ao55 t264.length co55)) (fun _ hk=>hk.2) (.slice Ao57 t267.length co57)) (fun _ hk=>hk.1.2)⟩,⟨by (with_reducible repeat (first|apply rA|apply rN|apply rD));exact rM (rF (p:=⟨Bk,2,none⟩) (rF (p:=⟨Bk,1,none⟩) (rF (p:=⟨Bk,0,none⟩) (rT Bg.out Bl.out (by decide)) (fun _ hk=>hk.2) (.int .i64 t263)) (fun _ hk=>hk.2) (.slice Ao55 t264.length co55)) (fun _ hk=>hk.2) (.slice Ao57 t267.length co57)) (fun _ hk=>⟨hk.1.2,hk.1.1⟩)⟩,⟨by (with_reducible repeat (first|apply Kd.Q_alloc|apply Kd.Q_drewN|apply Kd.Q_drew));exact qM (Kd.Q_far (p:=⟨Bk,2,none⟩) (Kd.Q_far (p:=⟨Bk,1,none⟩) (Kd.Q_far (p:=⟨Bk,0,none⟩) (Kd.Q_types Bh.out Bl.out (by decide)) (fun _ hk=>hk.2) (.int .i64 t263)) (fun _ hk=>hk.2) (.slice Ao55 t264.length co55)) (fun _ hk=>hk.2) (.slice Ao57 t267.length co57)) (fun _ hk=>⟨hk.1.2,hk.1.1⟩)⟩,⟨by (with_reducible repeat (first|apply rA|apply rN|apply rD));exact rM (rF (p:=⟨Bk,2,none⟩) (rF (p:=⟨Bk,1,none⟩) (rF (p:=⟨Bk,0,none⟩) (rT BO.out Bl.out (by decide)) (fun _ hk=>hk.2) (.int .i64 t263)) (fun _ hk=>hk.2) (.slice Ao55 t264.length co55)) (fun _ hk=>hk.2) (.slice Ao57 t267.length co57)) (fun _ hk=>hk.1.2)⟩,⟨by (with_reducible repeat (first|apply Kd.Q_alloc|apply Kd.Q_drewN|apply Kd.Q_drew));exact qM (Kd.Q_far (p:=⟨Bk,2,none⟩) (Kd.Q_far (p:=⟨Bk,1,none⟩) (Kd.Q_far (p:=⟨Bk,0,none⟩) (Kd.Q_types BP.out Bl.out (by decide)) (fun _ hk=>hk.2) (.int .i64 t263)) (fun _ hk=>hk.2) (.slice Ao55 t264.length co55)) (fun _ hk=>hk.2) (.slice Ao57 t267.length co57)) (fun _ hk=>hk.1.2)⟩,⟨by (with_reducible repeat (first|refine bN ?_ _|refine bD ?_|refine bA ?_ _|refine bE ?_ Bx.out _));exact Bb.out⟩,⟨by (with_reducible repeat (first|refine bN ?_ _|refine bD ?_|refine bA ?_ _|refine bE ?_ BJ.out _));exact Bi.out⟩,⟨by (with_reducible repeat (first|refine bN ?_ _|refine bD ?_|refine bA ?_ _));refine bT (cs:=#[.int .i64 t263,.slice Ao55 t264.length co55,.slice none 0 0]) ?_ 2 _ rfl;(with_reducible repeat (first|refine bN ?_ _|refine bD ?_|refine bA ?_ _));refine bT (cs:=#[.int .i64 t263,.slice none 0 0,.slice none 0 0]) ?_ 1 _ rfl;(with_reducible repeat (first|refine bN ?_ _|refine bD ?_|refine bA ?_ _));refine bT (cs:=#[.int .i64 0,.slice none 0 0,.slice none 0 0]) ?_ 0 _ rfl;(with_reducible repeat (first|refine bN ?_ _|refine bD ?_|refine bA ?_ _));exact Bl.out⟩,⟨by repeat (first|(with_reducible first|exact HB.out|apply oA|apply pN|apply o1|refine bS ?_ Bo.out|refine bS ?_ Bs.out|refine bS ?_ Bt.out)|exact HB.out)⟩⟩
          subst c59
          have H1:(laws_FnLockWord.j4 kj39 l1 t240 x11_3 t263 t264 t267)=some r:=by rw [if_pos rfl] at H;exact H
          clear H
          have H:=H1
          clear H1
          have H':=Am H
          clear H
          have Zh:=By.out
          have Zi:=Bx.out
          have Zj:=BN.out
          have Zk:=BJ.out
          have DC:=cz0 Bl.out
          have DD:=cz1 Bl.out
          have DE:=cz2 Bl.out
          have DF:=bF Bl.out 0
          have DG:=bF Bl.out 1
          have DH:=bF Bl.out 2
          have Zl:=Bz.out
          have Zm:=BA.out
          have DI:=cz0 Bb.out
          have DJ:=cz1 Bb.out
          have DK:=cz2 Bb.out
          have DL:=bF Bb.out 0
          have DM:=bF Bb.out 1
          have DN:=bF Bb.out 2
          go_wp2
          go_meet
          case rel=>exact ⟨_,(t263),(t264),(t267),(.slice Ao55 t264.length co55),(.slice Ao57 t267.length co57),H',⟨by have:=BE.out;have:=BF.out;have:=HK3.out;have:=BC.out;first|omega|exact nR _⟩,⟨by (with_reducible repeat (first|apply rA|apply rN|apply rD));exact rM (rF (p:=⟨Bd,2,none⟩) (rF (p:=⟨Bd,1,none⟩) (rF (p:=⟨Bd,0,none⟩) (rF (p:=⟨Bk,2,none⟩) (rF (p:=⟨Bk,1,none⟩) (rF (p:=⟨Bk,0,none⟩) (rT (rT BO.out Bl.out (by decide)) Bb.out (by decide)) (fun _ hk=>hk.1.2) (.int .i64 t263)) (fun _ hk=>hk.1.2) (.slice Ao55 t264.length co55)) (fun _ hk=>hk.1.2) (.slice Ao57 t267.length co57)) (fun _ hk=>hk.2) (.int .i64 t263)) (fun _ hk=>hk.2) (.slice Ao55 t264.length co55)) (fun _ hk=>hk.2) (.slice Ao57 t267.length co57)) (fun _ hk=>hk.1.1.2)⟩,⟨by (with_reducible repeat (first|apply Kd.Q_alloc|apply Kd.Q_drewN|apply Kd.Q_drew));exact qM (Kd.Q_far (p:=⟨Bd,2,none⟩) (Kd.Q_far (p:=⟨Bd,1,none⟩) (Kd.Q_far (p:=⟨Bd,0,none⟩) (Kd.Q_far (p:=⟨Bk,2,none⟩) (Kd.Q_far (p:=⟨Bk,1,none⟩) (Kd.Q_far (p:=⟨Bk,0,none⟩) (Kd.Q_types (Kd.Q_types BP.out Bl.out (by decide)) Bb.out (by decide)) (fun _ hk=>hk.1.2) (.int .i64 t263)) (fun _ hk=>hk.1.2) (.slice Ao55 t264.length co55)) (fun _ hk=>hk.1.2) (.slice Ao57 t267.length co57)) (fun _ hk=>hk.2) (.int .i64 t263)) (fun _ hk=>hk.2) (.slice Ao55 t264.length co55)) (fun _ hk=>hk.2) (.slice Ao57 t267.length co57)) (fun _ hk=>hk.1.1.2)⟩,⟨by (with_reducible repeat (first|apply rA|apply rN|apply rD));exact rM (rF (p:=⟨Bd,2,none⟩) (rF (p:=⟨Bd,1,none⟩) (rF (p:=⟨Bd,0,none⟩) (rF (p:=⟨Bk,2,none⟩) (rF (p:=⟨Bk,1,none⟩) (rF (p:=⟨Bk,0,none⟩) (rT (rT Bg.out Bl.out (by decide)) Bb.out (by decide)) (fun _ hk=>hk.1.2) (.int .i64 t263)) (fun _ hk=>hk.1.2) (.slice Ao55 t264.length co55)) (fun _ hk=>hk.1.2) (.slice Ao57 t267.length co57)) (fun _ hk=>hk.2) (.int .i64 t263)) (fun _ hk=>hk.2) (.slice Ao55 t264.length co55)) (fun _ hk=>hk.2) (.slice Ao57 t267.length co57)) (fun _ hk=>⟨hk.1.1.1,hk.1.1.1⟩)⟩,⟨by (with_reducible repeat (first|apply Kd.Q_alloc|apply Kd.Q_drewN|apply Kd.Q_drew));exact qM (Kd.Q_far (p:=⟨Bd,2,none⟩) (Kd.Q_far (p:=⟨Bd,1,none⟩) (Kd.Q_far (p:=⟨Bd,0,none⟩) (Kd.Q_far (p:=⟨Bk,2,none⟩) (Kd.Q_far (p:=⟨Bk,1,none⟩) (Kd.Q_far (p:=⟨Bk,0,none⟩) (Kd.Q_types (Kd.Q_types Bh.out Bl.out (by decide)) Bb.out (by decide)) (fun _ hk=>hk.1.2) (.int .i64 t263)) (fun _ hk=>hk.1.2) (.slice Ao55 t264.length co55)) (fun _ hk=>hk.1.2) (.slice Ao57 t267.length co57)) (fun _ hk=>hk.2) (.int .i64 t263)) (fun _ hk=>hk.2) (.slice Ao55 t264.length co55)) (fun _ hk=>hk.2) (.slice Ao57 t267.length co57)) (fun _ hk=>⟨hk.1.1.1,hk.1.1.1⟩)⟩,⟨by (with_reducible repeat (first|apply rA|apply rN|apply rD));exact rM (rF (p:=⟨Bd,2,none⟩) (rF (p:=⟨Bd,1,none⟩) (rF (p:=⟨Bd,0,none⟩) (rF (p:=⟨Bk,2,none⟩) (rF (p:=⟨Bk,1,none⟩) (rF (p:=⟨Bk,0,none⟩) (rT (rT BO.out Bl.out (by decide)) Bb.out (by decide)) (fun _ hk=>hk.1.2) (.int .i64 t263)) (fun _ hk=>hk.1.2) (.slice Ao55 t264.length co55)) (fun _ hk=>hk.1.2) (.slice Ao57 t267.length co57)) (fun _ hk=>hk.2) (.int .i64 t263)) (fun _ hk=>hk.2) (.slice Ao55 t264.length co55)) (fun _ hk=>hk.2) (.slice Ao57 t267.length co57)) (fun _ hk=>hk.1.1.2)⟩,⟨by (with_reducible repeat (first|apply Kd.Q_alloc|apply Kd.Q_drewN|apply Kd.Q_drew));exact qM (Kd.Q_far (p:=⟨Bd,2,none⟩) (Kd.Q_far (p:=⟨Bd,1,none⟩) (Kd.Q_far (p:=⟨Bd,0,none⟩) (Kd.Q_far (p:=⟨Bk,2,none⟩) (Kd.Q_far (p:=⟨Bk,1,none⟩) (Kd.Q_far (p:=⟨Bk,0,none⟩) (Kd.Q_types (Kd.Q_types BP.out Bl.out (by decide)) Bb.out (by decide)) (fun _ hk=>hk.1.2) (.int .i64 t263)) (fun _ hk=>hk.1.2) (.slice Ao55 t264.length co55)) (fun _ hk=>hk.1.2) (.slice Ao57 t267.length co57)) (fun _ hk=>hk.2) (.int .i64 t263)) (fun _ hk=>hk.2) (.slice Ao55 t264.length co55)) (fun _ hk=>hk.2) (.slice Ao57 t267.length co57)) (fun _ hk=>hk.1.1.2)⟩,⟨by (with_reducible repeat (first|refine bN ?_ _|refine bD ?_|refine bA ?_ _));refine bT (cs:=#[.int .i64 t263,.slice Ao55 t264.length co55,.slice Ao49 x251002_3.length co49]) ?_ 2 _ rfl;(with_reducible repeat (first|refine bN ?_ _|refine bD ?_|refine bA ?_ _));refine bT (cs:=#[.int .i64 t263,.slice Ao48 x251001_3.length co48,.slice Ao49 x251002_3.length co49]) ?_ 1 _ rfl;(with_reducible repeat (first|refine bN ?_ _|refine bD ?_|refine bA ?_ _));refine bT (cs:=#[.int .i64 x251000_3,.slice Ao48 x251001_3.length co48,.slice Ao49 x251002_3.length co49]) ?_ 0 _ rfl;(with_reducible repeat (first|refine bN ?_ _|refine bD ?_|refine bA ?_ _|refine bE ?_ Bx.out _));exact Bb.out⟩,⟨by (with_reducible repeat (first|refine bN ?_ _|refine bD ?_|refine bA ?_ _|refine bE ?_ BA.out _|refine bE ?_ BJ.out _));exact Bi.out⟩,⟨by (with_reducible repeat (first|refine bN ?_ _|refine bD ?_|refine bA ?_ _|refine bE ?_ By.out _));refine bT (cs:=#[.int .i64 t263,.slice Ao55 t264.length co55,.slice none 0 0]) ?_ 2 _ rfl;(with_reducible repeat (first|refine bN ?_ _|refine bD ?_|refine bA ?_ _));refine bT (cs:=#[.int .i64 t263,.slice none 0 0,.slice none 0 0]) ?_ 1 _ rfl;(with_reducible repeat (first|refine bN ?_ _|refine bD ?_|refine bA ?_ _));refine bT (cs:=#[.int .i64 0,.slice none 0 0,.slice none 0 0]) ?_ 0 _ rfl;(with_reducible repeat (first|refine bN ?_ _|refine bD ?_|refine bA ?_ _));exact Bl.out⟩,⟨by repeat (first|(with_reducible first|exact HB.out|apply oA|apply pN|apply o1|refine bS ?_ Bo.out|refine bS ?_ Bs.out|refine bS ?_ Bt.out)|exact HB.out)⟩⟩
         case rest =>
          clear HC47
          try clear c1
          try clear c2
          try clear p2
          try clear q2
          try clear hx2
          try clear c3
          try clear c4
          try clear c4b0
          try clear c4b1
          try clear c5
          try clear c6
          try clear p6
          try clear c8
          try clear c18
          try clear c22
          try clear c22b0
          try clear c22b1
          try clear c22b2
          try clear c24
          try clear c25
          try clear p26
          try clear q26
          try clear hx26
          try clear c29
          try clear c32
          try clear c33
          try clear c34
          try clear c34b0
          try clear c34b1
          try clear c34b2
          try clear c36
          try clear c41
          try clear c41b0
          try clear c42
          try clear c43
          try clear c43b0
          try clear c44
          try clear c44b0
          try clear c45
          try clear c45b0
          try clear c45b1
          try clear c59
          try clear c60
          try clear c61
          try clear c63
          try clear p64
          try clear BQ
          try clear BR
          try clear BS
          try clear BW
          try clear BX
          try clear BY
          try clear B2
          try clear B3
          try clear B4
          try clear B8
          try clear B9
          try clear Da
          try clear De
          try clear Df
          try clear Dg
          try clear Dk
          try clear Dl
          try clear Dm
          try clear Dq
          try clear Dr
          try clear Ds
          try clear Dw
          try clear Dx
          try clear Dy
          try clear DC
          try clear DD
          try clear DE
          try clear DI
          try clear DJ
          try clear DK
          try clear BT
          try clear BU
          try clear BV
          try clear BZ
          try clear B0
          try clear B1
          try clear B5
          try clear B6
          try clear B7
          try clear Db
          try clear Dc
          try clear Dd
          try clear Dh
          try clear Di
          try clear Dj
          try clear Dn
          try clear Do
          try clear Dp
          try clear Dt
          try clear Du
          try clear Dv
          try clear Dz
          try clear DA
          try clear DB
          try clear DF
          try clear DG
          try clear DH
          try clear DL
          try clear DM
          try clear DN
          try clear hx262_0
          try clear p2
          try clear p262
          try clear q262
          obtain ⟨kq,x251000_46,x251001_46,x251002_46,u251001,u251002,HA,BD,Bc,Bf,Bg,Bh,Bm,Bn,Bb,Bi,Bl,HB⟩:=hcut
          cases kq with
         |zero=>exact absurd HA.out (by simp [laws_FnLockWord.j4])
         |succ kj46 =>
           have H:=HA.out
           clear HA
           simp only [laws_FnLockWord.j4] at H
           have H':=Am H
           clear H
           go_wp2
           go_loopg [14,15,16] kj46 (fun kq v14 v15 v16 w'=>∃ (x14_6:Bool) (x15_6:Bool) (x16_6:Int),v14=.bool x14_6∧v15=.bool x15_6∧v16=.int .i64 x16_6∧Aside0 (laws_FnLockWord.l1 kq l1 t240 x11_3 x14_6 x15_6 x16_6 x251000_46 x251001_46 x251002_46=some r)∧Aside0 (kq≤kj46)∧Aside0 (Kd.R k57 57 w' w.heap.size (fun k_=>some k_≠((.slice Ao20 t252.length co20):Value).ownBlock) u251001 x251001_46)∧Aside0 (Kd.Q (Kd.int .i64) 3 w' w.heap.size (fun k_=>some k_≠((.slice Ao21 t255.length co21):Value).ownBlock) u251002 x251002_46)∧Aside0 (Kd.R k57 57 w' w.heap.size (fun k_=>some k_≠(u251001:Value).ownBlock∧some k_≠((.slice Ao55 t264.length co55):Value).ownBlock) (.slice Ao20 t252.length co20) t252)∧Aside0 (Kd.Q (Kd.int .i64) 3 w' w.heap.size (fun k_=>some k_≠(u251002:Value).ownBlock∧some k_≠((.slice Ao57 t267.length co57):Value).ownBlock) (.slice Ao21 t255.length co21) t255)∧Aside0 (Kd.R k57 57 w' w.heap.size (fun k_=>some k_≠((.slice Ao20 t252.length co20):Value).ownBlock) (.slice Ao55 t264.length co55) t264)∧Aside0 (Kd.Q (Kd.int .i64) 3 w' w.heap.size (fun k_=>some k_≠((.slice Ao21 t255.length co21):Value).ownBlock) (.slice Ao57 t267.length co57) t267)∧Aside0 (w'.heap[Bd]?=some (.cells #[.int .i64 x251000_46,u251001,u251002] 51 (0,0)))∧Aside0 (w'.heap[Bj]?=some (.cells #[.int .i64 t251,(.slice Ao20 t252.length co20),(.slice Ao21 t255.length co21)] 51 (0,0)))∧Aside0 (w'.heap[Bk]?=some (.cells #[.int .i64 t263,(.slice Ao55 t264.length co55),(.slice Ao57 t267.length co57)] 51 (0,0)))∧Aside0 (Below w.heap.size w w'))
           case atStart=>exact ⟨(false),(false),(0),(by first|rfl|(simp;done)|(simp [*];done)),(by first|rfl|(simp;done)|(simp [*];done)),(by first|rfl|(simp;done)|(simp [*];done)),H',⟨nR _⟩,⟨by (with_reducible repeat (first|apply rA|apply rN|apply rD));exact Bc.out⟩,⟨by (with_reducible repeat (first|apply Kd.Q_alloc|apply Kd.Q_drewN|apply Kd.Q_drew));exact Bf.out⟩,⟨by (with_reducible repeat (first|apply rA|apply rN|apply rD));exact Bg.out⟩,⟨by (with_reducible repeat (first|apply Kd.Q_alloc|apply Kd.Q_drewN|apply Kd.Q_drew));exact Bh.out⟩,⟨by (with_reducible repeat (first|apply rA|apply rN|apply rD));exact Bm.out⟩,⟨by (with_reducible repeat (first|apply Kd.Q_alloc|apply Kd.Q_drewN|apply Kd.Q_drew));exact Bn.out⟩,⟨by (with_reducible repeat (first|refine bN ?_ _|refine bD ?_|refine bA ?_ _));exact Bb.out⟩,⟨by (with_reducible repeat (first|refine bN ?_ _|refine bD ?_|refine bA ?_ _));exact Bi.out⟩,⟨by (with_reducible repeat (first|refine bN ?_ _|refine bD ?_|refine bA ?_ _));exact Bl.out⟩,⟨by repeat (first|(with_reducible first|exact HB.out|apply oA|apply pN|apply o1|refine bS ?_ Bo.out|refine bS ?_ Bs.out|refine bS ?_ Bt.out)|exact HB.out)⟩⟩
           case round =>
            clear H'
            try clear c1
            try clear c2
            try clear p2
            try clear q2
            try clear hx2
            try clear c3
            try clear c4
            try clear c4b0
            try clear c4b1
            try clear c5
            try clear c6
            try clear p6
            try clear c8
            try clear c18
            try clear c22
            try clear c22b0
            try clear c22b1
            try clear c22b2
            try clear c24
            try clear c25
            try clear p26
            try clear q26
            try clear hx26
            try clear c29
            try clear c32
            try clear c33
            try clear c34
            try clear c34b0
            try clear c34b1
            try clear c34b2
            try clear c36
            try clear c41
            try clear c41b0
            try clear c42
            try clear c43
            try clear c43b0
            try clear c44
            try clear c44b0
            try clear c45
            try clear c45b0
            try clear c45b1
            try clear c59
            try clear c60
            try clear c61
            try clear c63
            try clear p64
            try clear BQ
            try clear BR
            try clear BS
            try clear BW
            try clear BX
            try clear BY
            try clear B2
            try clear B3
            try clear B4
            try clear B8
            try clear B9
            try clear Da
            try clear De
            try clear Df
            try clear Dg
            try clear Dk
            try clear Dl
            try clear Dm
            try clear Dq
            try clear Dr
            try clear Ds
            try clear Dw
            try clear Dx
            try clear Dy
            try clear DC
            try clear DD
            try clear DE
            try clear DI
            try clear DJ
            try clear DK
            try clear BT
            try clear BU
            try clear BV
            try clear BZ
            try clear B0
            try clear B1
            try clear B5
            try clear B6
            try clear B7
            try clear Db
            try clear Dc
            try clear Dd
            try clear Dh
            try clear Di
            try clear Dj
            try clear Dn
            try clear Do
            try clear Dp
            try clear Dt
            try clear Du
            try clear Dv
            try clear Dz
            try clear DA
            try clear DB
            try clear DF
            try clear DG
            try clear DH
            try clear DL
            try clear DM
            try clear DN
            try clear hx262_0
            try clear p2
            try clear p26
            try clear p262
            try clear p6
            try clear p64
            try clear q2
            try clear q26
            try clear q262
            obtain ⟨x14_6,x15_6,x16_6,rfl,rfl,rfl,HA,HK6,Bc,Bf,Bg,Bh,Bm,Bn,Bb,Bi,Bl,HB⟩:=hrel
            cases gk with
           |zero=>exact absurd HA.out (by simp [laws_FnLockWord.l1])
           |succ k6 =>
             have H:=HA.out
             clear HA
             simp only [laws_FnLockWord.l1] at H
             by_cases c65:x16_6<(x251001_46.length:Int)
             rotate_left
             ·as_aux_lemma=>
               rw [if_neg c65] at H
               have c65b0:decide (x16_6<(x251001_46.length:Int))=false:=dF c65
               clear c65
               by_cases c309:((x251000_46 == 0) == x14_6)=true
               ·as_aux_lemma=>
                 rw [if_pos c309] at H
                 have c309b0:((x251000_46 == 0) == x14_6)=true:=c309
                 (try (have c309b1:decide ((x251000_46 == 0)=x14_6)=true:=by simpa using c309))
                 (try (have c309b2:((x251000_46 == 0) == x14_6)=true:=by simpa using c309))
                 clear c309
                 exact absurd ((oJ H).trans hT_.out) (by decide)
               rw [if_neg c309] at H
               have c309b0:((x251000_46 == 0) == x14_6)=false:=by simpa using c309
               (try (have c309b1:decide ((x251000_46 == 0)=x14_6)=false:=by simpa using c309))
               (try (have c309b2:((x251000_46 == 0) == x14_6)=false:=by simpa using c309))
               (try (have c309b3:¬ ((x251000_46 == 0)=x14_6):=by simpa using c309))
               clear c309
               by_cases c310:(x251002_46.length:Int) > 0
               rotate_left
               ·as_aux_lemma=>
                 rw [if_neg c310] at H
                 have c310b0:decide (0<(x251002_46.length:Int))=false:=dF c310
                 have c310b1:decide (0<x251002_46.length)=false:=dF (by omega)
                 clear c310
                 have H':=Am H
                 clear H
                 have Y3:=Bz.out
                 have Y4:=BA.out
                 have Y5:=Bx.out
                 have Y6:=By.out
                 have PL:=cz0 Bb.out
                 have PM:=cz1 Bb.out
                 have PN:=cz2 Bb.out
                 have PO:=bF Bb.out 0
                 have PP:=bF Bb.out 1
                 have PQ:=bF Bb.out 2
                 obtain ⟨Ao326,co326,eo326⟩:=rC Bc.out
                 subst eo326
                 obtain ⟨Ao327,co327,eo327,_⟩:=Kd.Q_slice Bf.out
                 subst eo327
                 go_wp2
                 go_roundg k6
                 case measure=>have:=BE.out;have:=BF.out;have:=HK3.out;have:=BC.out;have:=BD.out;have:=HK6.out;omega
                 case rel=>exact ⟨(wrap64 (x11_3 + 1)),(x251000_46),(x251001_46),(x251002_46),(.slice Ao326 x251001_46.length co326),(.slice Ao327 x251002_46.length co327),(by first|rfl|(simp;done)|(simp [*];done)),H',⟨by have:=BE.out;have:=BF.out;have:=HK3.out;have:=BC.out;have:=BD.out;have:=HK6.out;omega⟩,⟨by (with_reducible repeat (first|apply rA|apply rN|apply rD));exact Bc.out⟩,⟨by (with_reducible repeat (first|apply Kd.Q_alloc|apply Kd.Q_drewN|apply Kd.Q_drew));exact Bf.out⟩,⟨by (with_reducible repeat (first|apply rA|apply rN|apply rD));exact rM Bg.out (fun _ hk=>hk.1)⟩,⟨by (with_reducible repeat (first|apply Kd.Q_alloc|apply Kd.Q_drewN|apply Kd.Q_drew));exact qM Bh.out (fun _ hk=>hk.1)⟩,⟨by (with_reducible repeat (first|refine bN ?_ _|refine bD ?_|refine bA ?_ _));exact Bb.out⟩,⟨by (with_reducible repeat (first|refine bN ?_ _|refine bD ?_|refine bA ?_ _));exact Bi.out⟩,⟨by repeat (first|(with_reducible first|exact HB.out|apply oA|apply pN|apply o1|refine bS ?_ Bo.out|refine bS ?_ Bs.out|refine bS ?_ Bt.out)|exact HB.out)⟩⟩
               rw [if_pos c310] at H
               have c310b0:decide (0<(x251002_46.length:Int))=true:=dT c310
               have c310b1:decide (0<x251002_46.length)=true:=dT (by omega)
               clear c310
               by_cases c311:x251000_46=2
               ·as_aux_lemma=>
                 rw [if_pos c311] at H
                 have c311b0:(x251000_46 == 2)=true:=beq_iff_eq.mpr c311
                 have c311b1:(x251000_46 != 2)=false:=bne_eq_false_iff_eq.mpr c311
                 clear c311
                 have H':=Am H
                 clear H
                 have YV:=Bz.out
                 have YW:=BA.out
                 have YX:=Bx.out
                 have YY:=By.out
                 have Pz:=cz0 Bb.out
                 have PA:=cz1 Bb.out
                 have PB:=cz2 Bb.out
                 have PC:=bF Bb.out 0
                 have PD:=bF Bb.out 1
                 have PE:=bF Bb.out 2
                 obtain ⟨Ao315,co315,eo315⟩:=rC Bc.out
                 subst eo315
                 obtain ⟨Ao316,co316,eo316,_⟩:=Kd.Q_slice Bf.out
                 subst eo316
                 go_wp2
                 go_roundg k6
                 case measure=>have:=BE.out;have:=BF.out;have:=HK3.out;have:=BC.out;have:=BD.out;have:=HK6.out;omega
                 case rel=>exact ⟨(wrap64 (x11_3 + 1)),(x251000_46),(x251001_46),(x251002_46),(.slice Ao315 x251001_46.length co315),(.slice Ao316 x251002_46.length co316),(by first|rfl|(simp;done)|(simp [*];done)),H',⟨by have:=BE.out;have:=BF.out;have:=HK3.out;have:=BC.out;have:=BD.out;have:=HK6.out;omega⟩,⟨by (with_reducible repeat (first|apply rA|apply rN|apply rD));exact Bc.out⟩,⟨by (with_reducible repeat (first|apply Kd.Q_alloc|apply Kd.Q_drewN|apply Kd.Q_drew));exact Bf.out⟩,⟨by (with_reducible repeat (first|apply rA|apply rN|apply rD));exact rM Bg.out (fun _ hk=>hk.1)⟩,⟨by (with_reducible repeat (first|apply Kd.Q_alloc|apply Kd.Q_drewN|apply Kd.Q_drew));exact qM Bh.out (fun _ hk=>hk.1)⟩,⟨by (with_reducible repeat (first|refine bN ?_ _|refine bD ?_|refine bA ?_ _));exact Bb.out⟩,⟨by (with_reducible repeat (first|refine bN ?_ _|refine bD ?_|refine bA ?_ _));exact Bi.out⟩,⟨by repeat (first|(with_reducible first|exact HB.out|apply oA|apply pN|apply o1|refine bS ?_ Bo.out|refine bS ?_ Bs.out|refine bS ?_ Bt.out)|exact HB.out)⟩⟩
               rw [if_neg c311] at H
               have c311b0:(x251000_46 == 2)=false:=beq_eq_false_iff_ne.mpr c311
               have c311b1:(x251000_46 != 2)=true:=bne_iff_ne.mpr c311
               by_cases c317:x15_6=true
               rotate_left
               ·as_aux_lemma=>
                 replace c317:=Bool.eq_false_iff.mpr c317
                 subst c317
                 have H1:(some false)=some r:=by rw [if_neg (show ¬ (false=true) by decide)] at H;exact H
                 clear H
                 have H:=H1
                 clear H1
                 exact absurd ((oJ H).trans hT_.out) (by decide)
               subst c317
               have H1:(laws_FnLockWord.l0 k6 l1 t240 (wrap64 (x11_3 + 1)) x251000_46 x251001_46 x251002_46)=some r:=by rw [if_pos rfl] at H;exact H
               clear H
               have H:=H1
               clear H1
               have H':=Am H
               clear H
               have YZ:=Bz.out
               have Y0:=BA.out
               have Y1:=Bx.out
               have Y2:=By.out
               have PF:=cz0 Bb.out
               have PG:=cz1 Bb.out
               have PH:=cz2 Bb.out
               have PI:=bF Bb.out 0
               have PJ:=bF Bb.out 1
               have PK:=bF Bb.out 2
               obtain ⟨Ao321,co321,eo321⟩:=rC Bc.out
               subst eo321
               obtain ⟨Ao322,co322,eo322,_⟩:=Kd.Q_slice Bf.out
               subst eo322
               go_wp2
               go_roundg k6
               case measure=>have:=BE.out;have:=BF.out;have:=HK3.out;have:=BC.out;have:=BD.out;have:=HK6.out;omega
               case rel=>exact ⟨(wrap64 (x11_3 + 1)),(x251000_46),(x251001_46),(x251002_46),(.slice Ao321 x251001_46.length co321),(.slice Ao322 x251002_46.length co322),(by first|rfl|(simp;done)|(simp [*];done)),H',⟨by have:=BE.out;have:=BF.out;have:=HK3.out;have:=BC.out;have:=BD.out;have:=HK6.out;omega⟩,⟨by (with_reducible repeat (first|apply rA|apply rN|apply rD));exact Bc.out⟩,⟨by (with_reducible repeat (first|apply Kd.Q_alloc|apply Kd.Q_drewN|apply Kd.Q_drew));exact Bf.out⟩,⟨by (with_reducible repeat (first|apply rA|apply rN|apply rD));exact rM Bg.out (fun _ hk=>hk.1)⟩,⟨by (with_reducible repeat (first|apply Kd.Q_alloc|apply Kd.Q_drewN|apply Kd.Q_drew));exact qM Bh.out (fun _ hk=>hk.1)⟩,⟨by (with_reducible repeat (first|refine bN ?_ _|refine bD ?_|refine bA ?_ _));exact Bb.out⟩,⟨by (with_reducible repeat (first|refine bN ?_ _|refine bD ?_|refine bA ?_ _));exact Bi.out⟩,⟨by repeat (first|(with_reducible first|exact HB.out|apply oA|apply pN|apply o1|refine bS ?_ Bo.out|refine bS ?_ Bs.out|refine bS ?_ Bt.out)|exact HB.out)⟩⟩
             rw [if_pos c65] at H
             have c65b0:decide (x16_6<(x251001_46.length:Int))=true:=dT c65
             clear c65
             by_cases c66:0≤x16_6
             rotate_left
             ·as_aux_lemma=>
               rw [if_neg c66] at H
               exact absurd H (by simp)
             rw [if_pos c66] at H
             have c66b0:decide (0≤x16_6)=true:=dT c66
             clear c66
             by_cases c67:x14_6=true
             ·as_aux_lemma=>
               subst c67
               have H1:(if x15_6=true then (laws_FnLockWord.l1 k6 l1 t240 x11_3 true true (wrap64 (x16_6 + 1)) x251000_46 x251001_46 x251002_46) else (if ((rd_T57 x251001_46 x16_6).f0)=5 then (laws_FnLockWord.l1 k6 l1 t240 x11_3 true true (wrap64 (x16_6 + 1)) x251000_46 x251001_46 x251002_46) else (if ((rd_T57 x251001_46 x16_6).f0)=6 then (laws_FnLockWord.l1 k6 l1 t240 x11_3 true true (wrap64 (x16_6 + 1)) x251000_46 x251001_46 x251002_46) else (if ((rd_T57 x251001_46 x16_6).f0)=3 then (if ((rd_T57 x251001_46 x16_6).f3=true) then (if ((rd_T57 x251001_46 x16_6).f0)=1 then (laws_FnLockWord.l1 k6 l1 t240 x11_3 true true (wrap64 (x16_6 + 1)) x251000_46 x251001_46 x251002_46) else (laws_FnLockWord.l1 k6 l1 t240 x11_3 true (((rd_T57 x251001_46 x16_6).f0) == 2) (wrap64 (x16_6 + 1)) x251000_46 x251001_46 x251002_46)) else (laws_FnLockWord.l1 k6 l1 t240 x11_3 true true (wrap64 (x16_6 + 1)) x251000_46 x251001_46 x251002_46)) else (if ((rd_T57 x251001_46 x16_6).f0)=1 then (laws_FnLockWord.l1 k6 l1 t240 x11_3 true true (wrap64 (x16_6 + 1)) x251000_46 x251001_46 x251002_46) else (laws_FnLockWord.l1 k6 l1 t240 x11_3 true (((rd_T57 x251001_46 x16_6).f0) == 2) (wrap64 (x16_6 + 1)) x251000_46 x251001_46 x251002_46))))))=some r:=by rw [if_pos rfl] at H;exact H
               clear H
               have H:=H1
               clear H1
               by_cases c68:x15_6=true
               ·as_aux_lemma=>
                 subst c68
                 have H1:(laws_FnLockWord.l1 k6 l1 t240 x11_3 true true (wrap64 (x16_6 + 1)) x251000_46 x251001_46 x251002_46)=some r:=by rw [if_pos rfl] at H;exact H
                 clear H
                 have H:=H1
                 clear H1
                 have H':=Am H
                 clear H
                 have Zn:=Bz.out
                 have Zo:=BA.out
                 have Zp:=Bx.out
                 have Zq:=By.out
                 have PR:=cz0 Bb.out
                 have PS:=cz1 Bb.out
                 have PT:=cz2 Bb.out
                 have PU:=bF Bb.out 0
                 have PV:=bF Bb.out 1
                 have PW:=bF Bb.out 2
                 obtain ⟨Ao72,co72,eo72⟩:=rC Bc.out
                 subst eo72
                 have p272:0≤(x16_6:Int):=oE (by first|(with_reducible assumption)|assumption)
                 have q272:x16_6<(x251001_46.length:Int):=oE (by first|(with_reducible assumption)|assumption)
                 obtain ⟨ad272,e272,hx272_0,hx272_1,hx272_2,hx272_3⟩:=at_T57 (rR Bc.out).2.2 x16_6 p272 q272
                 cases e272
                 replace p272:=eq_true p272
                 replace q272:=eq_true q272
                 go_wp2_with (first|((with_reducible refine gD (N:=17) rfl ?_);(try (refine gate_guard (by rfl) ?_;dsimp only));refine bI ?hg (N:=17) ?hd (cs:=#[.int .i64 0,.int .i64 0,.int .i64 0,.bool false]) (t:=57) ?hr ?_;(case hd=>rfl);(case hg=>rfl);(case hr=>first|(go_simp;done)|(go_simp;rfl));intro Ba hg w73 hbox hb;have n0_:=Am (rB (Kd.R_elderB (rL Bc.out) Ba (Nat.le_of_eq hg.symm)) hb);have n1_:=Am (Kd.Q_below (qL Bf.out) hb);have n2_:=Am (rB (Kd.R_elderB (rL Bg.out) Ba (Nat.le_of_eq hg.symm)) hb);have n3_:=Am (Kd.Q_below (qL Bh.out) hb);have n4_:=Am (rB (Kd.R_elderB (rL Bm.out) Ba (Nat.le_of_eq hg.symm)) hb);have n5_:=Am (Kd.Q_below (qL Bn.out) hb);have n6_:=Am (bX Bb.out hb);have n7_:=Am (bX Bi.out hb);have n8_:=Am (bX Bl.out hb);have n9_:=Am (bP (by repeat (first|(with_reducible first|exact HB.out|apply oA|apply pN|apply o1|refine bS ?_ Bo.out|refine bS ?_ Bs.out|refine bS ?_ Bt.out)|exact HB.out)) hb);have n10_:=Am (hbox);have n11_:=Am ((by rw [hg];exact (bZ (by repeat (first|(with_reducible first|exact HB.out|apply oA|apply pN|apply o1|refine bS ?_ Bo.out|refine bS ?_ Bs.out|refine bS ?_ Bt.out)|exact HB.out))):w.heap.size≤Ba));have n12_:=Am ((by rw [hg];exact (bZ (by repeat (first|(with_reducible first|exact HB.out|apply oA|apply pN|apply o1|refine bS ?_ Bo.out|refine bS ?_ Bs.out|refine bS ?_ Bt.out)|exact HB.out))):w.heap.size≤Ba));have n13_:=Am ((nL Bb.out hg));have n14_:=Am ((nG Bb.out hg));have n15_:=Am ((nL Bi.out hg));have n16_:=Am ((nG Bi.out hg));have n17_:=Am ((nL Bl.out hg));have n18_:=Am ((nG Bl.out hg));clear Bc Bf Bg Bh Bm Bn Bb Bi Bl HB;revert n0_ n1_ n2_ n3_ n4_ n5_ n6_ n7_ n8_ n9_ n10_ n11_ n12_ n13_ n14_ n15_ n16_ n17_ n18_;intro Bc Bf Bg Bh Bm Bn Bb Bi Bl HB Be BI BB Bp Bu Bq Bv Br Bw;clear hb hbox hg;have Zr:=Bu.out;have Zs:=Bp.out;have Zt:=Bv.out;have Zu:=Bq.out;have Zv:=Bw.out;have Zw:=Br.out;have PX:=cz0 Be.out;have PY:=cz1 Be.out;have PZ:=cz2 Be.out;have P0:=cz3 Be.out;have P1:=bF Be.out 0;have P2:=bF Be.out 1;have P3:=bF Be.out 2;have P4:=bF Be.out 3))
                 go_roundg k6
                 case measure=>have:=BE.out;have:=BF.out;have:=HK3.out;have:=BC.out;have:=BD.out;have:=HK6.out;omega
                 case rel=>exact ⟨(true),(true),(wrap64 (x16_6 + 1)),(by first|rfl|(simp;done)|(simp [*];done)),(by first|rfl|(simp;done)|(simp [*];done)),(by first|rfl|(simp;done)|(simp [*];done)),H',⟨by have:=BE.out;have:=BF.out;have:=HK3.out;have:=BC.out;have:=BD.out;have:=HK6.out;omega⟩,⟨by (with_reducible repeat (first|apply rA|apply rN|apply rD));exact rM (rF (p:=⟨Ba,3,none⟩) (rF (p:=⟨Ba,2,none⟩) (rF (p:=⟨Ba,1,none⟩) (rF (p:=⟨Ba,0,none⟩) (rM Bc.out (fun k_ hk=>(⟨hk,hk.2⟩:_∧k_≠Ba))) (fun _ hk=>hk.2) (.int .i64 ((rd_T57 x251001_46 x16_6).f0))) (fun _ hk=>hk.2) (.int .i64 ((rd_T57 x251001_46 x16_6).f1))) (fun _ hk=>hk.2) (.int .i64 ((rd_T57 x251001_46 x16_6).f2))) (fun _ hk=>hk.2) (.bool ((rd_T57 x251001_46 x16_6).f3))) (fun _ hk=>hk.1.1)⟩,⟨by (with_reducible repeat (first|apply Kd.Q_alloc|apply Kd.Q_drewN|apply Kd.Q_drew));exact qM (Kd.Q_far (p:=⟨Ba,3,none⟩) (Kd.Q_far (p:=⟨Ba,2,none⟩) (Kd.Q_far (p:=⟨Ba,1,none⟩) (Kd.Q_far (p:=⟨Ba,0,none⟩) (Kd.Q_types Bf.out Be.out (by decide)) (fun _ hk=>hk.2) (.int .i64 ((rd_T57 x251001_46 x16_6).f0))) (fun _ hk=>hk.2) (.int .i64 ((rd_T57 x251001_46 x16_6).f1))) (fun _ hk=>hk.2) (.int .i64 ((rd_T57 x251001_46 x16_6).f2))) (fun _ hk=>hk.2) (.bool ((rd_T57 x251001_46 x16_6).f3))) (fun _ hk=>hk.1)⟩,⟨by (with_reducible repeat (first|apply rA|apply rN|apply rD));exact rM (rF (p:=⟨Ba,3,none⟩) (rF (p:=⟨Ba,2,none⟩) (rF (p:=⟨Ba,1,none⟩) (rF (p:=⟨Ba,0,none⟩) (rM Bg.out (fun k_ hk=>(⟨hk,hk.2⟩:_∧k_≠Ba))) (fun _ hk=>hk.2) (.int .i64 ((rd_T57 x251001_46 x16_6).f0))) (fun _ hk=>hk.2) (.int .i64 ((rd_T57 x251001_46 x16_6).f1))) (fun _ hk=>hk.2) (.int .i64 ((rd_T57 x251001_46 x16_6).f2))) (fun _ hk=>hk.2) (.bool ((rd_T57 x251001_46 x16_6).f3))) (fun _ hk=>⟨hk.1.1.1,hk.1.1.2⟩)⟩,⟨by (with_reducible repeat (first|apply Kd.Q_alloc|apply Kd.Q_drewN|apply Kd.Q_drew));exact qM (Kd.Q_far (p:=⟨Ba,3,none⟩) (Kd.Q_far (p:=⟨Ba,2,none⟩) (Kd.Q_far (p:=⟨Ba,1,none⟩) (Kd.Q_far (p:=⟨Ba,0,none⟩) (Kd.Q_types Bh.out Be.out (by decide)) (fun _ hk=>hk.2) (.int .i64 ((rd_T57 x251001_46 x16_6).f0))) (fun _ hk=>hk.2) (.int .i64 ((rd_T57 x251001_46 x16_6).f1))) (fun _ hk=>hk.2) (.int .i64 ((rd_T57 x251001_46 x16_6).f2))) (fun _ hk=>hk.2) (.bool ((rd_T57 x251001_46 x16_6).f3))) (fun _ hk=>⟨hk.1.1,hk.1.2⟩)⟩,⟨by (with_reducible repeat (first|apply rA|apply rN|apply rD));exact rM (rF (p:=⟨Ba,3,none⟩) (rF (p:=⟨Ba,2,none⟩) (rF (p:=⟨Ba,1,none⟩) (rF (p:=⟨Ba,0,none⟩) (rM Bm.out (fun k_ hk=>(⟨hk,hk.2⟩:_∧k_≠Ba))) (fun _ hk=>hk.2) (.int .i64 ((rd_T57 x251001_46 x16_6).f0))) (fun _ hk=>hk.2) (.int .i64 ((rd_T57 x251001_46 x16_6).f1))) (fun _ hk=>hk.2) (.int .i64 ((rd_T57 x251001_46 x16_6).f2))) (fun _ hk=>hk.2) (.bool ((rd_T57 x251001_46 x16_6).f3))) (fun _ hk=>hk.1.1)⟩,⟨by (with_reducible repeat (first|apply Kd.Q_alloc|apply Kd.Q_drewN|apply Kd.Q_drew));exact qM (Kd.Q_far (p:=⟨Ba,3,none⟩) (Kd.Q_far (p:=⟨Ba,2,none⟩) (Kd.Q_far (p:=⟨Ba,1,none⟩) (Kd.Q_far (p:=⟨Ba,0,none⟩) (Kd.Q_types Bn.out Be.out (by decide)) (fun _ hk=>hk.2) (.int .i64 ((rd_T57 x251001_46 x16_6).f0))) (fun _ hk=>hk.2) (.int .i64 ((rd_T57 x251001_46 x16_6).f1))) (fun _ hk=>hk.2) (.int .i64 ((rd_T57 x251001_46 x16_6).f2))) (fun _ hk=>hk.2) (.bool ((rd_T57 x251001_46 x16_6).f3))) (fun _ hk=>hk.1)⟩,⟨by (with_reducible repeat (first|refine bN ?_ _|refine bD ?_|refine bA ?_ _|refine bE ?_ Bp.out _));exact Bb.out⟩,⟨by (with_reducible repeat (first|refine bN ?_ _|refine bD ?_|refine bA ?_ _|refine bE ?_ Bq.out _));exact Bi.out⟩,⟨by (with_reducible repeat (first|refine bN ?_ _|refine bD ?_|refine bA ?_ _|refine bE ?_ Br.out _));exact Bl.out⟩,⟨by repeat (first|(with_reducible first|exact HB.out|apply oA|apply pN|apply o1|refine bS ?_ Bo.out|refine bS ?_ Bs.out|refine bS ?_ Bt.out|refine bS ?_ BB.out)|exact HB.out)⟩⟩
               replace c68:=Bool.eq_false_iff.mpr c68
               subst c68
               have H1:(if ((rd_T57 x251001_46 x16_6).f0)=5 then (laws_FnLockWord.l1 k6 l1 t240 x11_3 true true (wrap64 (x16_6 + 1)) x251000_46 x251001_46 x251002_46) else (if ((rd_T57 x251001_46 x16_6).f0)=6 then (laws_FnLockWord.l1 k6 l1 t240 x11_3 true true (wrap64 (x16_6 + 1)) x251000_46 x251001_46 x251002_46) else (if ((rd_T57 x251001_46 x16_6).f0)=3 then (if ((rd_T57 x251001_46 x16_6).f3=true) then (if ((rd_T57 x251001_46 x16_6).f0)=1 then (laws_FnLockWord.l1 k6 l1 t240 x11_3 true true (wrap64 (x16_6 + 1)) x251000_46 x251001_46 x251002_46) else (laws_FnLockWord.l1 k6 l1 t240 x11_3 true (((rd_T57 x251001_46 x16_6).f0) == 2) (wrap64 (x16_6 + 1)) x251000_46 x251001_46 x251002_46)) else (laws_FnLockWord.l1 k6 l1 t240 x11_3 true true (wrap64 (x16_6 + 1)) x251000_46 x251001_46 x251002_46)) else (if ((rd_T57 x251001_46 x16_6).f0)=1 then (laws_FnLockWord.l1 k6 l1 t240 x11_3 true true (wrap64 (x16_6 + 1)) x251000_46 x251001_46 x251002_46) else (laws_FnLockWord.l1 k6 l1 t240 x11_3 true (((rd_T57 x251001_46 x16_6).f0) == 2) (wrap64 (x16_6 + 1)) x251000_46 x251001_46 x251002_46)))))=some r:=by rw [if_neg (show ¬ (false=true) by decide)] at H;exact H
               clear H
               have H:=H1
               clear H1
               by_cases c78:((rd_T57 x251001_46 x16_6).f0)=5
               ·as_aux_lemma=>
                 rw [if_pos c78] at H
                 have c78b0:(((rd_T57 x251001_46 x16_6).f0) == 5)=true:=beq_iff_eq.mpr c78
                 have c78b1:(((rd_T57 x251001_46 x16_6).f0) != 5)=false:=bne_eq_false_iff_eq.mpr c78
                 clear c78
                 have H':=Am H
                 clear H
                 have Zx:=Bz.out
                 have Zy:=BA.out
                 have Zz:=Bx.out
                 have ZA:=By.out
                 have P5:=cz0 Bb.out
                 have P6:=cz1 Bb.out
                 have P7:=cz2 Bb.out
                 have P8:=bF Bb.out 0
                 have P9:=bF Bb.out 1
                 have Qa:=bF Bb.out 2
                 obtain ⟨Ao82,co82,eo82⟩:=rC Bc.out
                 subst eo82
                 have p272:0≤(x16_6:Int):=oE (by first|(with_reducible assumption)|assumption)
                 have q272:x16_6<(x251001_46.length:Int):=oE (by first|(with_reducible assumption)|assumption)
                 obtain ⟨ad272,e272,hx272_0,hx272_1,hx272_2,hx272_3⟩:=at_T57 (rR Bc.out).2.2 x16_6 p272 q272
                 cases e272
                 replace p272:=eq_true p272
                 replace q272:=eq_true q272
                 go_wp2_with (first|((with_reducible refine gD (N:=17) rfl ?_);(try (refine gate_guard (by rfl) ?_;dsimp only));refine bI ?hg (N:=17) ?hd (cs:=#[.int .i64 0,.int .i64 0,.int .i64 0,.bool false]) (t:=57) ?hr ?_;(case hd=>rfl);(case hg=>rfl);(case hr=>first|(go_simp;done)|(go_simp;rfl));intro Ba hg w83 hbox hb;have n0_:=Am (rB (Kd.R_elderB (rL Bc.out) Ba (Nat.le_of_eq hg.symm)) hb);have n1_:=Am (Kd.Q_below (qL Bf.out) hb);have n2_:=Am (rB (Kd.R_elderB (rL Bg.out) Ba (Nat.le_of_eq hg.symm)) hb);have n3_:=Am (Kd.Q_below (qL Bh.out) hb);have n4_:=Am (rB (Kd.R_elderB (rL Bm.out) Ba (Nat.le_of_eq hg.symm)) hb);have n5_:=Am (Kd.Q_below (qL Bn.out) hb);have n6_:=Am (bX Bb.out hb);have n7_:=Am (bX Bi.out hb);have n8_:=Am (bX Bl.out hb);have n9_:=Am (bP (by repeat (first|(with_reducible first|exact HB.out|apply oA|apply pN|apply o1|refine bS ?_ Bo.out|refine bS ?_ Bs.out|refine bS ?_ Bt.out)|exact HB.out)) hb);have n10_:=Am (hbox);have n11_:=Am ((by rw [hg];exact (bZ (by repeat (first|(with_reducible first|exact HB.out|apply oA|apply pN|apply o1|refine bS ?_ Bo.out|refine bS ?_ Bs.out|refine bS ?_ Bt.out)|exact HB.out))):w.heap.size≤Ba));have n12_:=Am ((by rw [hg];exact (bZ (by repeat (first|(with_reducible first|exact HB.out|apply oA|apply pN|apply o1|refine bS ?_ Bo.out|refine bS ?_ Bs.out|refine bS ?_ Bt.out)|exact HB.out))):w.heap.size≤Ba));have n13_:=Am ((nL Bb.out hg));have n14_:=Am ((nG Bb.out hg));have n15_:=Am ((nL Bi.out hg));have n16_:=Am ((nG Bi.out hg));have n17_:=Am ((nL Bl.out hg));have n18_:=Am ((nG Bl.out hg));clear Bc Bf Bg Bh Bm Bn Bb Bi Bl HB;revert n0_ n1_ n2_ n3_ n4_ n5_ n6_ n7_ n8_ n9_ n10_ n11_ n12_ n13_ n14_ n15_ n16_ n17_ n18_;intro Bc Bf Bg Bh Bm Bn Bb Bi Bl HB Be BI BB Bp Bu Bq Bv Br Bw;clear hb hbox hg;have ZB:=Bu.out;have ZC:=Bp.out;have ZD:=Bv.out;have ZE:=Bq.out;have ZF:=Bw.out;have ZG:=Br.out;have Qb:=cz0 Be.out;have Qc:=cz1 Be.out;have Qd:=cz2 Be.out;have Qe:=cz3 Be.out;have Qf:=bF Be.out 0;have Qg:=bF Be.out 1;have Qh:=bF Be.out 2;have Qi:=bF Be.out 3))
                 go_roundg k6
                 case measure=>have:=BE.out;have:=BF.out;have:=HK3.out;have:=BC.out;have:=BD.out;have:=HK6.out;omega
                 case rel=>exact ⟨(true),(true),(wrap64 (x16_6 + 1)),(by first|rfl|(simp;done)|(simp [*];done)),(by first|rfl|(simp;done)|(simp [*];done)),(by first|rfl|(simp;done)|(simp [*];done)),H',⟨by have:=BE.out;have:=BF.out;have:=HK3.out;have:=BC.out;have:=BD.out;have:=HK6.out;omega⟩,⟨by (with_reducible repeat (first|apply rA|apply rN|apply rD));exact rM (rF (p:=⟨Ba,3,none⟩) (rF (p:=⟨Ba,2,none⟩) (rF (p:=⟨Ba,1,none⟩) (rF (p:=⟨Ba,0,none⟩) (rM Bc.out (fun k_ hk=>(⟨hk,hk.2⟩:_∧k_≠Ba))) (fun _ hk=>hk.2) (.int .i64 ((rd_T57 x251001_46 x16_6).f0))) (fun _ hk=>hk.2) (.int .i64 ((rd_T57 x251001_46 x16_6).f1))) (fun _ hk=>hk.2) (.int .i64 ((rd_T57 x251001_46 x16_6).f2))) (fun _ hk=>hk.2) (.bool ((rd_T57 x251001_46 x16_6).f3))) (fun _ hk=>hk.1.1)⟩,⟨by (with_reducible repeat (first|apply Kd.Q_alloc|apply Kd.Q_drewN|apply Kd.Q_drew));exact qM (Kd.Q_far (p:=⟨Ba,3,none⟩) (Kd.Q_far (p:=⟨Ba,2,none⟩) (Kd.Q_far (p:=⟨Ba,1,none⟩) (Kd.Q_far (p:=⟨Ba,0,none⟩) (Kd.Q_types Bf.out Be.out (by decide)) (fun _ hk=>hk.2) (.int .i64 ((rd_T57 x251001_46 x16_6).f0))) (fun _ hk=>hk.2) (.int .i64 ((rd_T57 x251001_46 x16_6).f1))) (fun _ hk=>hk.2) (.int .i64 ((rd_T57 x251001_46 x16_6).f2))) (fun _ hk=>hk.2) (.bool ((rd_T57 x251001_46 x16_6).f3))) (fun _ hk=>hk.1)⟩,⟨by (with_reducible repeat (first|apply rA|apply rN|apply rD));exact rM (rF (p:=⟨Ba,3,none⟩) (rF (p:=⟨Ba,2,none⟩) (rF (p:=⟨Ba,1,none⟩) (rF (p:=⟨Ba,0,none⟩) (rM Bg.out (fun k_ hk=>(⟨hk,hk.2⟩:_∧k_≠Ba))) (fun _ hk=>hk.2) (.int .i64 ((rd_T57 x251001_46 x16_6).f0))) (fun _ hk=>hk.2) (.int .i64 ((rd_T57 x251001_46 x16_6).f1))) (fun _ hk=>hk.2) (.int .i64 ((rd_T57 x251001_46 x16_6).f2))) (fun _ hk=>hk.2) (.bool ((rd_T57 x251001_46 x16_6).f3))) (fun _ hk=>⟨hk.1.1.1,hk.1.1.2⟩)⟩,⟨by (with_reducible repeat (first|apply Kd.Q_alloc|apply Kd.Q_drewN|apply Kd.Q_drew));exact qM (Kd.Q_far (p:=⟨Ba,3,none⟩) (Kd.Q_far (p:=⟨Ba,2,none⟩) (Kd.Q_far (p:=⟨Ba,1,none⟩) (Kd.Q_far (p:=⟨Ba,0,none⟩) (Kd.Q_types Bh.out Be.out (by decide)) (fun _ hk=>hk.2) (.int .i64 ((rd_T57 x251001_46 x16_6).f0))) (fun _ hk=>hk.2) (.int .i64 ((rd_T57 x251001_46 x16_6).f1))) (fun _ hk=>hk.2) (.int .i64 ((rd_T57 x251001_46 x16_6).f2))) (fun _ hk=>hk.2) (.bool ((rd_T57 x251001_46 x16_6).f3))) (fun _ hk=>⟨hk.1.1,hk.1.2⟩)⟩,⟨by (with_reducible repeat (first|apply rA|apply rN|apply rD));exact rM (rF (p:=⟨Ba,3,none⟩) (rF (p:=⟨Ba,2,none⟩) (rF (p:=⟨Ba,1,none⟩) (rF (p:=⟨Ba,0,none⟩) (rM Bm.out (fun k_ hk=>(⟨hk,hk.2⟩:_∧k_≠Ba))) (fun _ hk=>hk.2) (.int .i64 ((rd_T57 x251001_46 x16_6).f0))) (fun _ hk=>hk.2) (.int .i64 ((rd_T57 x251001_46 x16_6).f1))) (fun _ hk=>hk.2) (.int .i64 ((rd_T57 x251001_46 x16_6).f2))) (fun _ hk=>hk.2) (.bool ((rd_T57 x251001_46 x16_6).f3))) (fun _ hk=>hk.1.1)⟩,⟨by (with_reducible repeat (first|apply Kd.Q_alloc|apply Kd.Q_drewN|apply Kd.Q_drew));exact qM (Kd.Q_far (p:=⟨Ba,3,none⟩) (Kd.Q_far (p:=⟨Ba,2,none⟩) (Kd.Q_far (p:=⟨Ba,1,none⟩) (Kd.Q_far (p:=⟨Ba,0,none⟩) (Kd.Q_types Bn.out Be.out (by decide)) (fun _ hk=>hk.2) (.int .i64 ((rd_T57 x251001_46 x16_6).f0))) (fun _ hk=>hk.2) (.int .i64 ((rd_T57 x251001_46 x16_6).f1))) (fun _ hk=>hk.2) (.int .i64 ((rd_T57 x251001_46 x16_6).f2))) (fun _ hk=>hk.2) (.bool ((rd_T57 x251001_46 x16_6).f3))) (fun _ hk=>hk.1)⟩,⟨by (with_reducible repeat (first|refine bN ?_ _|refine bD ?_|refine bA ?_ _|refine bE ?_ Bp.out _));exact Bb.out⟩,⟨by (with_reducible repeat (first|refine bN ?_ _|refine bD ?_|refine bA ?_ _|refine bE ?_ Bq.out _));exact Bi.out⟩,⟨by (with_reducible repeat (first|refine bN ?_ _|refine bD ?_|refine bA ?_ _|refine bE ?_ Br.out _));exact Bl.out⟩,⟨by repeat (first|(with_reducible first|exact HB.out|apply oA|apply pN|apply o1|refine bS ?_ Bo.out|refine bS ?_ Bs.out|refine bS ?_ Bt.out|refine bS ?_ BB.out)|exact HB.out)⟩⟩
               rw [if_neg c78] at H
               have c78b0:(((rd_T57 x251001_46 x16_6).f0) == 5)=false:=beq_eq_false_iff_ne.mpr c78
               have c78b1:(((rd_T57 x251001_46 x16_6).f0) != 5)=true:=bne_iff_ne.mpr c78
               by_cases c88:((rd_T57 x251001_46 x16_6).f0)=6
               ·as_aux_lemma=>
                 rw [if_pos c88] at H
                 have c88b0:(((rd_T57 x251001_46 x16_6).f0) == 6)=true:=beq_iff_eq.mpr c88
                 have c88b1:(((rd_T57 x251001_46 x16_6).f0) != 6)=false:=bne_eq_false_iff_eq.mpr c88
                 clear c88
                 have H':=Am H
                 clear H
                 have ZH:=Bz.out
                 have ZI:=BA.out
                 have ZJ:=Bx.out
                 have ZK:=By.out
                 have Qj:=cz0 Bb.out
                 have Qk:=cz1 Bb.out
                 have Ql:=cz2 Bb.out
                 have Qm:=bF Bb.out 0
                 have Qn:=bF Bb.out 1
                 have Qo:=bF Bb.out 2
                 obtain ⟨Ao92,co92,eo92⟩:=rC Bc.out
                 subst eo92
                 have p272:0≤(x16_6:Int):=oE (by first|(with_reducible assumption)|assumption)
                 have q272:x16_6<(x251001_46.length:Int):=oE (by first|(with_reducible assumption)|assumption)
                 obtain ⟨ad272,e272,hx272_0,hx272_1,hx272_2,hx272_3⟩:=at_T57 (rR Bc.out).2.2 x16_6 p272 q272
                 cases e272
                 replace p272:=eq_true p272
                 replace q272:=eq_true q272
                 go_wp2_with (first|((with_reducible refine gD (N:=17) rfl ?_);(try (refine gate_guard (by rfl) ?_;dsimp only));refine bI ?hg (N:=17) ?hd (cs:=#[.int .i64 0,.int .i64 0,.int .i64 0,.bool false]) (t:=57) ?hr ?_;(case hd=>rfl);(case hg=>rfl);(case hr=>first|(go_simp;done)|(go_simp;rfl));intro Ba hg w93 hbox hb;have n0_:=Am (rB (Kd.R_elderB (rL Bc.out) Ba (Nat.le_of_eq hg.symm)) hb);have n1_:=Am (Kd.Q_below (qL Bf.out) hb);have n2_:=Am (rB (Kd.R_elderB (rL Bg.out) Ba (Nat.le_of_eq hg.symm)) hb);have n3_:=Am (Kd.Q_below (qL Bh.out) hb);have n4_:=Am (rB (Kd.R_elderB (rL Bm.out) Ba (Nat.le_of_eq hg.symm)) hb);have n5_:=Am (Kd.Q_below (qL Bn.out) hb);have n6_:=Am (bX Bb.out hb);have n7_:=Am (bX Bi.out hb);have n8_:=Am (bX Bl.out hb);have n9_:=Am (bP (by repeat (first|(with_reducible first|exact HB.out|apply oA|apply pN|apply o1|refine bS ?_ Bo.out|refine bS ?_ Bs.out|refine bS ?_ Bt.out)|exact HB.out)) hb);have n10_:=Am (hbox);have n11_:=Am ((by rw [hg];exact (bZ (by repeat (first|(with_reducible first|exact HB.out|apply oA|apply pN|apply o1|refine bS ?_ Bo.out|refine bS ?_ Bs.out|refine bS ?_ Bt.out)|exact HB.out))):w.heap.size≤Ba));have n12_:=Am ((by rw [hg];exact (bZ (by repeat (first|(with_reducible first|exact HB.out|apply oA|apply pN|apply o1|refine bS ?_ Bo.out|refine bS ?_ Bs.out|refine bS ?_ Bt.out)|exact HB.out))):w.heap.size≤Ba));have n13_:=Am ((nL Bb.out hg));have n14_:=Am ((nG Bb.out hg));have n15_:=Am ((nL Bi.out hg));have n16_:=Am ((nG Bi.out hg));have n17_:=Am ((nL Bl.out hg));have n18_:=Am ((nG Bl.out hg));clear Bc Bf Bg Bh Bm Bn Bb Bi Bl HB;revert n0_ n1_ n2_ n3_ n4_ n5_ n6_ n7_ n8_ n9_ n10_ n11_ n12_ n13_ n14_ n15_ n16_ n17_ n18_;intro Bc Bf Bg Bh Bm Bn Bb Bi Bl HB Be BI BB Bp Bu Bq Bv Br Bw;clear hb hbox hg;have ZL:=Bu.out;have ZM:=Bp.out;have ZN:=Bv.out;have ZO:=Bq.out;have ZP:=Bw.out;have ZQ:=Br.out;have Qp:=cz0 Be.out;have Qq:=cz1 Be.out;have Qr:=cz2 Be.out;have Qs:=cz3 Be.out;have Qt:=bF Be.out 0;have Qu:=bF Be.out 1;have Qv:=bF Be.out 2;have Qw:=bF Be.out 3))
                 go_roundg k6
                 case measure=>have:=BE.out;have:=BF.out;have:=HK3.out;have:=BC.out;have:=BD.out;have:=HK6.out;omega
                 case rel=>exact ⟨(true),(true),(wrap64 (x16_6 + 1)),(by first|rfl|(simp;done)|(simp [*];done)),(by first|rfl|(simp;done)|(simp [*];done)),(by first|rfl|(simp;done)|(simp [*];done)),H',⟨by have:=BE.out;have:=BF.out;have:=HK3.out;have:=BC.out;have:=BD.out;have:=HK6.out;omega⟩,⟨by (with_reducible repeat (first|apply rA|apply rN|apply rD));exact rM (rF (p:=⟨Ba,3,none⟩) (rF (p:=⟨Ba,2,none⟩) (rF (p:=⟨Ba,1,none⟩) (rF (p:=⟨Ba,0,none⟩) (rM Bc.out (fun k_ hk=>(⟨hk,hk.2⟩:_∧k_≠Ba))) (fun _ hk=>hk.2) (.int .i64 ((rd_T57 x251001_46 x16_6).f0))) (fun _ hk=>hk.2) (.int .i64 ((rd_T57 x251001_46 x16_6).f1))) (fun _ hk=>hk.2) (.int .i64 ((rd_T57 x251001_46 x16_6).f2))) (fun _ hk=>hk.2) (.bool ((rd_T57 x251001_46 x16_6).f3))) (fun _ hk=>hk.1.1)⟩,⟨by (with_reducible repeat (first|apply Kd.Q_alloc|apply Kd.Q_drewN|apply Kd.Q_drew));exact qM (Kd.Q_far (p:=⟨Ba,3,none⟩) (Kd.Q_far (p:=⟨Ba,2,none⟩) (Kd.Q_far (p:=⟨Ba,1,none⟩) (Kd.Q_far (p:=⟨Ba,0,none⟩) (Kd.Q_types Bf.out Be.out (by decide)) (fun _ hk=>hk.2) (.int .i64 ((rd_T57 x251001_46 x16_6).f0))) (fun _ hk=>hk.2) (.int .i64 ((rd_T57 x251001_46 x16_6).f1))) (fun _ hk=>hk.2) (.int .i64 ((rd_T57 x251001_46 x16_6).f2))) (fun _ hk=>hk.2) (.bool ((rd_T57 x251001_46 x16_6).f3))) (fun _ hk=>hk.1)⟩,⟨by (with_reducible repeat (first|apply rA|apply rN|apply rD));exact rM (rF (p:=⟨Ba,3,none⟩) (rF (p:=⟨Ba,2,none⟩) (rF (p:=⟨Ba,1,none⟩) (rF (p:=⟨Ba,0,none⟩) (rM Bg.out (fun k_ hk=>(⟨hk,hk.2⟩:_∧k_≠Ba))) (fun _ hk=>hk.2) (.int .i64 ((rd_T57 x251001_46 x16_6).f0))) (fun _ hk=>hk.2) (.int .i64 ((rd_T57 x251001_46 x16_6).f1))) (fun _ hk=>hk.2) (.int .i64 ((rd_T57 x251001_46 x16_6).f2))) (fun _ hk=>hk.2) (.bool ((rd_T57 x251001_46 x16_6).f3))) (fun _ hk=>⟨hk.1.1.1,hk.1.1.2⟩)⟩,⟨by (with_reducible repeat (first|apply Kd.Q_alloc|apply Kd.Q_drewN|apply Kd.Q_drew));exact qM (Kd.Q_far (p:=⟨Ba,3,none⟩) (Kd.Q_far (p:=⟨Ba,2,none⟩) (Kd.Q_far (p:=⟨Ba,1,none⟩) (Kd.Q_far (p:=⟨Ba,0,none⟩) (Kd.Q_types Bh.out Be.out (by decide)) (fun _ hk=>hk.2) (.int .i64 ((rd_T57 x251001_46 x16_6).f0))) (fun _ hk=>hk.2) (.int .i64 ((rd_T57 x251001_46 x16_6).f1))) (fun _ hk=>hk.2) (.int .i64 ((rd_T57 x251001_46 x16_6).f2))) (fun _ hk=>hk.2) (.bool ((rd_T57 x251001_46 x16_6).f3))) (fun _ hk=>⟨hk.1.1,hk.1.2⟩)⟩,⟨by (with_reducible repeat (first|apply rA|apply rN|apply rD));exact rM (rF (p:=⟨Ba,3,none⟩) (rF (p:=⟨Ba,2,none⟩) (rF (p:=⟨Ba,1,none⟩) (rF (p:=⟨Ba,0,none⟩) (rM Bm.out (fun k_ hk=>(⟨hk,hk.2⟩:_∧k_≠Ba))) (fun _ hk=>hk.2) (.int .i64 ((rd_T57 x251001_46 x16_6).f0))) (fun _ hk=>hk.2) (.int .i64 ((rd_T57 x251001_46 x16_6).f1))) (fun _ hk=>hk.2) (.int .i64 ((rd_T57 x251001_46 x16_6).f2))) (fun _ hk=>hk.2) (.bool ((rd_T57 x251001_46 x16_6).f3))) (fun _ hk=>hk.1.1)⟩,⟨by (with_reducible repeat (first|apply Kd.Q_alloc|apply Kd.Q_drewN|apply Kd.Q_drew));exact qM (Kd.Q_far (p:=⟨Ba,3,none⟩) (Kd.Q_far (p:=⟨Ba,2,none⟩) (Kd.Q_far (p:=⟨Ba,1,none⟩) (Kd.Q_far (p:=⟨Ba,0,none⟩) (Kd.Q_types Bn.out Be.out (by decide)) (fun _ hk=>hk.2) (.int .i64 ((rd_T57 x251001_46 x16_6).f0))) (fun _ hk=>hk.2) (.int .i64 ((rd_T57 x251001_46 x16_6).f1))) (fun _ hk=>hk.2) (.int .i64 ((rd_T57 x251001_46 x16_6).f2))) (fun _ hk=>hk.2) (.bool ((rd_T57 x251001_46 x16_6).f3))) (fun _ hk=>hk.1)⟩,⟨by (with_reducible repeat (first|refine bN ?_ _|refine bD ?_|refine bA ?_ _|refine bE ?_ Bp.out _));exact Bb.out⟩,⟨by (with_reducible repeat (first|refine bN ?_ _|refine bD ?_|refine bA ?_ _|refine bE ?_ Bq.out _));exact Bi.out⟩,⟨by (with_reducible repeat (first|refine bN ?_ _|refine bD ?_|refine bA ?_ _|refine bE ?_ Br.out _));exact Bl.out⟩,⟨by repeat (first|(with_reducible first|exact HB.out|apply oA|apply pN|apply o1|refine bS ?_ Bo.out|refine bS ?_ Bs.out|refine bS ?_ Bt.out|refine bS ?_ BB.out)|exact HB.out)⟩⟩
               rw [if_neg c88] at H
               have c88b0:(((rd_T57 x251001_46 x16_6).f0) == 6)=false:=beq_eq_false_iff_ne.mpr c88
               have c88b1:(((rd_T57 x251001_46 x16_6).f0) != 6)=true:=bne_iff_ne.mpr c88
               by_cases c98:((rd_T57 x251001_46 x16_6).f0)=3
               rotate_left
               ·as_aux_lemma=>
                 rw [if_neg c98] at H
                 have c98b0:(((rd_T57 x251001_46 x16_6).f0) == 3)=false:=beq_eq_false_iff_ne.mpr c98
                 have c98b1:(((rd_T57 x251001_46 x16_6).f0) != 3)=true:=bne_iff_ne.mpr c98
                 by_cases c129:((rd_T57 x251001_46 x16_6).f0)=1
                 ·as_aux_lemma=>
                   rw [if_pos c129] at H
                   have c129b0:(((rd_T57 x251001_46 x16_6).f0) == 1)=true:=beq_iff_eq.mpr c129
                   have c129b1:(((rd_T57 x251001_46 x16_6).f0) != 1)=false:=bne_eq_false_iff_eq.mpr c129
                   clear c129
                   have H':=Am H
                   clear H
                   have Q1:=Bz.out
                   have Q2:=BA.out
                   have Q3:=Bx.out
                   have Q4:=By.out
                   have Fu:=cz0 Bb.out
                   have Fv:=cz1 Bb.out
                   have Fw:=cz2 Bb.out
                   have Fx:=bF Bb.out 0
                   have Fy:=bF Bb.out 1
                   have Fz:=bF Bb.out 2
                   obtain ⟨Ao133,co133,eo133⟩:=rC Bc.out
                   subst eo133
                   have p272:0≤(x16_6:Int):=oE (by first|(with_reducible assumption)|assumption)
                   have q272:x16_6<(x251001_46.length:Int):=oE (by first|(with_reducible assumption)|assumption)
                   obtain ⟨ad272,e272,hx272_0,hx272_1,hx272_2,hx272_3⟩:=at_T57 (rR Bc.out).2.2 x16_6 p272 q272
                   cases e272
                   replace p272:=eq_true p272
                   replace q272:=eq_true q272
                   go_wp2_with (first|((with_reducible refine gD (N:=17) rfl ?_);(try (refine gate_guard (by rfl) ?_;dsimp only));refine bI ?hg (N:=17) ?hd (cs:=#[.int .i64 0,.int .i64 0,.int .i64 0,.bool false]) (t:=57) ?hr ?_;(case hd=>rfl);(case hg=>rfl);(case hr=>first|(go_simp;done)|(go_simp;rfl));intro Ba hg w134 hbox hb;have n0_:=Am (rB (Kd.R_elderB (rL Bc.out) Ba (Nat.le_of_eq hg.symm)) hb);have n1_:=Am (Kd.Q_below (qL Bf.out) hb);have n2_:=Am (rB (Kd.R_elderB (rL Bg.out) Ba (Nat.le_of_eq hg.symm)) hb);have n3_:=Am (Kd.Q_below (qL Bh.out) hb);have n4_:=Am (rB (Kd.R_elderB (rL Bm.out) Ba (Nat.le_of_eq hg.symm)) hb);have n5_:=Am (Kd.Q_below (qL Bn.out) hb);have n6_:=Am (bX Bb.out hb);have n7_:=Am (bX Bi.out hb);have n8_:=Am (bX Bl.out hb);have n9_:=Am (bP (by repeat (first|(with_reducible first|exact HB.out|apply oA|apply pN|apply o1|refine bS ?_ Bo.out|refine bS ?_ Bs.out|refine bS ?_ Bt.out)|exact HB.out)) hb);have n10_:=Am (hbox);have n11_:=Am ((by rw [hg];exact (bZ (by repeat (first|(with_reducible first|exact HB.out|apply oA|apply pN|apply o1|refine bS ?_ Bo.out|refine bS ?_ Bs.out|refine bS ?_ Bt.out)|exact HB.out))):w.heap.size≤Ba));have n12_:=Am ((by rw [hg];exact (bZ (by repeat (first|(with_reducible first|exact HB.out|apply oA|apply pN|apply o1|refine bS ?_ Bo.out|refine bS ?_ Bs.out|refine bS ?_ Bt.out)|exact HB.out))):w.heap.size≤Ba));have n13_:=Am ((nL Bb.out hg));have n14_:=Am ((nG Bb.out hg));have n15_:=Am ((nL Bi.out hg));have n16_:=Am ((nG Bi.out hg));have n17_:=Am ((nL Bl.out hg));have n18_:=Am ((nG Bl.out hg));clear Bc Bf Bg Bh Bm Bn Bb Bi Bl HB;revert n0_ n1_ n2_ n3_ n4_ n5_ n6_ n7_ n8_ n9_ n10_ n11_ n12_ n13_ n14_ n15_ n16_ n17_ n18_;intro Bc Bf Bg Bh Bm Bn Bb Bi Bl HB Be BI BB Bp Bu Bq Bv Br Bw;clear hb hbox hg;have Q5:=Bu.out;have Q6:=Bp.out;have Q7:=Bv.out;have Q8:=Bq.out;have Q9:=Bw.out;have Va:=Br.out;have FA:=cz0 Be.out;have FB:=cz1 Be.out;have FC:=cz2 Be.out;have FD:=cz3 Be.out;have FE:=bF Be.out 0;have FF:=bF Be.out 1;have FG:=bF Be.out 2;have FH:=bF Be.out 3))
                   go_roundg k6
                   case measure=>have:=BE.out;have:=BF.out;have:=HK3.out;have:=BC.out;have:=BD.out;have:=HK6.out;omega
                   case rel=>exact ⟨(true),(true),(wrap64 (x16_6 + 1)),(by first|rfl|(simp;done)|(simp [*];done)),(by first|rfl|(simp;done)|(simp [*];done)),(by first|rfl|(simp;done)|(simp [*];done)),H',⟨by have:=BE.out;have:=BF.out;have:=HK3.out;have:=BC.out;have:=BD.out;have:=HK6.out;omega⟩,⟨by (with_reducible repeat (first|apply rA|apply rN|apply rD));exact rM (rF (p:=⟨Ba,3,none⟩) (rF (p:=⟨Ba,2,none⟩) (rF (p:=⟨Ba,1,none⟩) (rF (p:=⟨Ba,0,none⟩) (rM Bc.out (fun k_ hk=>(⟨hk,hk.2⟩:_∧k_≠Ba))) (fun _ hk=>hk.2) (.int .i64 ((rd_T57 x251001_46 x16_6).f0))) (fun _ hk=>hk.2) (.int .i64 ((rd_T57 x251001_46 x16_6).f1))) (fun _ hk=>hk.2) (.int .i64 ((rd_T57 x251001_46 x16_6).f2))) (fun _ hk=>hk.2) (.bool ((rd_T57 x251001_46 x16_6).f3))) (fun _ hk=>hk.1.1)⟩,⟨by (with_reducible repeat (first|apply Kd.Q_alloc|apply Kd.Q_drewN|apply Kd.Q_drew));exact qM (Kd.Q_far (p:=⟨Ba,3,none⟩) (Kd.Q_far (p:=⟨Ba,2,none⟩) (Kd.Q_far (p:=⟨Ba,1,none⟩) (Kd.Q_far (p:=⟨Ba,0,none⟩) (Kd.Q_types Bf.out Be.out (by decide)) (fun _ hk=>hk.2) (.int .i64 ((rd_T57 x251001_46 x16_6).f0))) (fun _ hk=>hk.2) (.int .i64 ((rd_T57 x251001_46 x16_6).f1))) (fun _ hk=>hk.2) (.int .i64 ((rd_T57 x251001_46 x16_6).f2))) (fun _ hk=>hk.2) (.bool ((rd_T57 x251001_46 x16_6).f3))) (fun _ hk=>hk.1)⟩,⟨by (with_reducible repeat (first|apply rA|apply rN|apply rD));exact rM (rF (p:=⟨Ba,3,none⟩) (rF (p:=⟨Ba,2,none⟩) (rF (p:=⟨Ba,1,none⟩) (rF (p:=⟨Ba,0,none⟩) (rM Bg.out (fun k_ hk=>(⟨hk,hk.2⟩:_∧k_≠Ba))) (fun _ hk=>hk.2) (.int .i64 ((rd_T57 x251001_46 x16_6).f0))) (fun _ hk=>hk.2) (.int .i64 ((rd_T57 x251001_46 x16_6).f1))) (fun _ hk=>hk.2) (.int .i64 ((rd_T57 x251001_46 x16_6).f2))) (fun _ hk=>hk.2) (.bool ((rd_T57 x251001_46 x16_6).f3))) (fun _ hk=>⟨hk.1.1.1,hk.1.1.2⟩)⟩,⟨by (with_reducible repeat (first|apply Kd.Q_alloc|apply Kd.Q_drewN|apply Kd.Q_drew));exact qM (Kd.Q_far (p:=⟨Ba,3,none⟩) (Kd.Q_far (p:=⟨Ba,2,none⟩) (Kd.Q_far (p:=⟨Ba,1,none⟩) (Kd.Q_far (p:=⟨Ba,0,none⟩) (Kd.Q_types Bh.out Be.out (by decide)) (fun _ hk=>hk.2) (.int .i64 ((rd_T57 x251001_46 x16_6).f0))) (fun _ hk=>hk.2) (.int .i64 ((rd_T57 x251001_46 x16_6).f1))) (fun _ hk=>hk.2) (.int .i64 ((rd_T57 x251001_46 x16_6).f2))) (fun _ hk=>hk.2) (.bool ((rd_T57 x251001_46 x16_6).f3))) (fun _ hk=>⟨hk.1.1,hk.1.2⟩)⟩,⟨by (with_reducible repeat (first|apply rA|apply rN|apply rD));exact rM (rF (p:=⟨Ba,3,none⟩) (rF (p:=⟨Ba,2,none⟩) (rF (p:=⟨Ba,1,none⟩) (rF (p:=⟨Ba,0,none⟩) (rM Bm.out (fun k_ hk=>(⟨hk,hk.2⟩:_∧k_≠Ba))) (fun _ hk=>hk.2) (.int .i64 ((rd_T57 x251001_46 x16_6).f0))) (fun _ hk=>hk.2) (.int .i64 ((rd_T57 x251001_46 x16_6).f1))) (fun _ hk=>hk.2) (.int .i64 ((rd_T57 x251001_46 x16_6).f2))) (fun _ hk=>hk.2) (.bool ((rd_T57 x251001_46 x16_6).f3))) (fun _ hk=>hk.1.1)⟩,⟨by (with_reducible repeat (first|apply Kd.Q_alloc|apply Kd.Q_drewN|apply Kd.Q_drew));exact qM (Kd.Q_far (p:=⟨Ba,3,none⟩) (Kd.Q_far (p:=⟨Ba,2,none⟩) (Kd.Q_far (p:=⟨Ba,1,none⟩) (Kd.Q_far (p:=⟨Ba,0,none⟩) (Kd.Q_types Bn.out Be.out (by decide)) (fun _ hk=>hk.2) (.int .i64 ((rd_T57 x251001_46 x16_6).f0))) (fun _ hk=>hk.2) (.int .i64 ((rd_T57 x251001_46 x16_6).f1))) (fun _ hk=>hk.2) (.int .i64 ((rd_T57 x251001_46 x16_6).f2))) (fun _ hk=>hk.2) (.bool ((rd_T57 x251001_46 x16_6).f3))) (fun _ hk=>hk.1)⟩,⟨by (with_reducible repeat (first|refine bN ?_ _|refine bD ?_|refine bA ?_ _|refine bE ?_ Bp.out _));exact Bb.out⟩,⟨by (with_reducible repeat (first|refine bN ?_ _|refine bD ?_|refine bA ?_ _|refine bE ?_ Bq.out _));exact Bi.out⟩,⟨by (with_reducible repeat (first|refine bN ?_ _|refine bD ?_|refine bA ?_ _|refine bE ?_ Br.out _));exact Bl.out⟩,⟨by repeat (first|(with_reducible first|exact HB.out|apply oA|apply pN|apply o1|refine bS ?_ Bo.out|refine bS ?_ Bs.out|refine bS ?_ Bt.out|refine bS ?_ BB.out)|exact HB.out)⟩⟩
                 rw [if_neg c129] at H
                 have c129b0:(((rd_T57 x251001_46 x16_6).f0) == 1)=false:=beq_eq_false_iff_ne.mpr c129
                 have c129b1:(((rd_T57 x251001_46 x16_6).f0) != 1)=true:=bne_iff_ne.mpr c129
                 have H':=Am H
                 clear H
                 have Vb:=Bz.out
                 have Vc:=BA.out
                 have Vd:=Bx.out
                 have Ve:=By.out
                 have FI:=cz0 Bb.out
                 have FJ:=cz1 Bb.out
                 have FK:=cz2 Bb.out
                 have FL:=bF Bb.out 0
                 have FM:=bF Bb.out 1
                 have FN:=bF Bb.out 2
                 obtain ⟨Ao142,co142,eo142⟩:=rC Bc.out
                 subst eo142
                 have p272:0≤(x16_6:Int):=oE (by first|(with_reducible assumption)|assumption)
                 have q272:x16_6<(x251001_46.length:Int):=oE (by first|(with_reducible assumption)|assumption)
                 obtain ⟨ad272,e272,hx272_0,hx272_1,hx272_2,hx272_3⟩:=at_T57 (rR Bc.out).2.2 x16_6 p272 q272
                 cases e272
                 replace p272:=eq_true p272
                 replace q272:=eq_true q272
                 go_wp2_with (first|((with_reducible refine gD (N:=17) rfl ?_);(try (refine gate_guard (by rfl) ?_;dsimp only));refine bI ?hg (N:=17) ?hd (cs:=#[.int .i64 0,.int .i64 0,.int .i64 0,.bool false]) (t:=57) ?hr ?_;(case hd=>rfl);(case hg=>rfl);(case hr=>first|(go_simp;done)|(go_simp;rfl));intro Ba hg w143 hbox hb;have n0_:=Am (rB (Kd.R_elderB (rL Bc.out) Ba (Nat.le_of_eq hg.symm)) hb);have n1_:=Am (Kd.Q_below (qL Bf.out) hb);have n2_:=Am (rB (Kd.R_elderB (rL Bg.out) Ba (Nat.le_of_eq hg.symm)) hb);have n3_:=Am (Kd.Q_below (qL Bh.out) hb);have n4_:=Am (rB (Kd.R_elderB (rL Bm.out) Ba (Nat.le_of_eq hg.symm)) hb);have n5_:=Am (Kd.Q_below (qL Bn.out) hb);have n6_:=Am (bX Bb.out hb);have n7_:=Am (bX Bi.out hb);have n8_:=Am (bX Bl.out hb);have n9_:=Am (bP (by repeat (first|(with_reducible first|exact HB.out|apply oA|apply pN|apply o1|refine bS ?_ Bo.out|refine bS ?_ Bs.out|refine bS ?_ Bt.out)|exact HB.out)) hb);have n10_:=Am (hbox);have n11_:=Am ((by rw [hg];exact (bZ (by repeat (first|(with_reducible first|exact HB.out|apply oA|apply pN|apply o1|refine bS ?_ Bo.out|refine bS ?_ Bs.out|refine bS ?_ Bt.out)|exact HB.out))):w.heap.size≤Ba));have n12_:=Am ((by rw [hg];exact (bZ (by repeat (first|(with_reducible first|exact HB.out|apply oA|apply pN|apply o1|refine bS ?_ Bo.out|refine bS ?_ Bs.out|refine bS ?_ Bt.out)|exact HB.out))):w.heap.size≤Ba));have n13_:=Am ((nL Bb.out hg));have n14_:=Am ((nG Bb.out hg));have n15_:=Am ((nL Bi.out hg));have n16_:=Am ((nG Bi.out hg));have n17_:=Am ((nL Bl.out hg));have n18_:=Am ((nG Bl.out hg));clear Bc Bf Bg Bh Bm Bn Bb Bi Bl HB;revert n0_ n1_ n2_ n3_ n4_ n5_ n6_ n7_ n8_ n9_ n10_ n11_ n12_ n13_ n14_ n15_ n16_ n17_ n18_;intro Bc Bf Bg Bh Bm Bn Bb Bi Bl HB Be BI BB Bp Bu Bq Bv Br Bw;clear hb hbox hg;have Vf:=Bu.out;have Vg:=Bp.out;have Vh:=Bv.out;have Vi:=Bq.out;have Vj:=Bw.out;have Vk:=Br.out;have FO:=cz0 Be.out;have FP:=cz1 Be.out;have FQ:=cz2 Be.out;have FR:=cz3 Be.out;have FS:=bF Be.out 0;have FT:=bF Be.out 1;have FU:=bF Be.out 2;have FV:=bF Be.out 3))
                 go_roundg k6
                 case measure=>have:=BE.out;have:=BF.out;have:=HK3.out;have:=BC.out;have:=BD.out;have:=HK6.out;omega
                 case rel=>exact ⟨(true),((((rd_T57 x251001_46 x16_6).f0) == 2)),(wrap64 (x16_6 + 1)),(by first|rfl|(simp;done)|(simp [*];done)),(by first|rfl|(simp;done)|(simp [*];done)),(by first|rfl|(simp;done)|(simp [*];done)),H',⟨by have:=BE.out;have:=BF.out;have:=HK3.out;have:=BC.out;have:=BD.out;have:=HK6.out;omega⟩,⟨by (with_reducible repeat (first|apply rA|apply rN|apply rD));exact rM (rF (p:=⟨Ba,3,none⟩) (rF (p:=⟨Ba,2,none⟩) (rF (p:=⟨Ba,1,none⟩) (rF (p:=⟨Ba,0,none⟩) (rM Bc.out (fun k_ hk=>(⟨hk,hk.2⟩:_∧k_≠Ba))) (fun _ hk=>hk.2) (.int .i64 ((rd_T57 x251001_46 x16_6).f0))) (fun _ hk=>hk.2) (.int .i64 ((rd_T57 x251001_46 x16_6).f1))) (fun _ hk=>hk.2) (.int .i64 ((rd_T57 x251001_46 x16_6).f2))) (fun _ hk=>hk.2) (.bool ((rd_T57 x251001_46 x16_6).f3))) (fun _ hk=>hk.1.1)⟩,⟨by (with_reducible repeat (first|apply Kd.Q_alloc|apply Kd.Q_drewN|apply Kd.Q_drew));exact qM (Kd.Q_far (p:=⟨Ba,3,none⟩) (Kd.Q_far (p:=⟨Ba,2,none⟩) (Kd.Q_far (p:=⟨Ba,1,none⟩) (Kd.Q_far (p:=⟨Ba,0,none⟩) (Kd.Q_types Bf.out Be.out (by decide)) (fun _ hk=>hk.2) (.int .i64 ((rd_T57 x251001_46 x16_6).f0))) (fun _ hk=>hk.2) (.int .i64 ((rd_T57 x251001_46 x16_6).f1))) (fun _ hk=>hk.2) (.int .i64 ((rd_T57 x251001_46 x16_6).f2))) (fun _ hk=>hk.2) (.bool ((rd_T57 x251001_46 x16_6).f3))) (fun _ hk=>hk.1)⟩,⟨by (with_reducible repeat (first|apply rA|apply rN|apply rD));exact rM (rF (p:=⟨Ba,3,none⟩) (rF (p:=⟨Ba,2,none⟩) (rF (p:=⟨Ba,1,none⟩) (rF (p:=⟨Ba,0,none⟩) (rM Bg.out (fun k_ hk=>(⟨hk,hk.2⟩:_∧k_≠Ba))) (fun _ hk=>hk.2) (.int .i64 ((rd_T57 x251001_46 x16_6).f0))) (fun _ hk=>hk.2) (.int .i64 ((rd_T57 x251001_46 x16_6).f1))) (fun _ hk=>hk.2) (.int .i64 ((rd_T57 x251001_46 x16_6).f2))) (fun _ hk=>hk.2) (.bool ((rd_T57 x251001_46 x16_6).f3))) (fun _ hk=>⟨hk.1.1.1,hk.1.1.2⟩)⟩,⟨by (with_reducible repeat (first|apply Kd.Q_alloc|apply Kd.Q_drewN|apply Kd.Q_drew));exact qM (Kd.Q_far (p:=⟨Ba,3,none⟩) (Kd.Q_far (p:=⟨Ba,2,none⟩) (Kd.Q_far (p:=⟨Ba,1,none⟩) (Kd.Q_far (p:=⟨Ba,0,none⟩) (Kd.Q_types Bh.out Be.out (by decide)) (fun _ hk=>hk.2) (.int .i64 ((rd_T57 x251001_46 x16_6).f0))) (fun _ hk=>hk.2) (.int .i64 ((rd_T57 x251001_46 x16_6).f1))) (fun _ hk=>hk.2) (.int .i64 ((rd_T57 x251001_46 x16_6).f2))) (fun _ hk=>hk.2) (.bool ((rd_T57 x251001_46 x16_6).f3))) (fun _ hk=>⟨hk.1.1,hk.1.2⟩)⟩,⟨by (with_reducible repeat (first|apply rA|apply rN|apply rD));exact rM (rF (p:=⟨Ba,3,none⟩) (rF (p:=⟨Ba,2,none⟩) (rF (p:=⟨Ba,1,none⟩) (rF (p:=⟨Ba,0,none⟩) (rM Bm.out (fun k_ hk=>(⟨hk,hk.2⟩:_∧k_≠Ba))) (fun _ hk=>hk.2) (.int .i64 ((rd_T57 x251001_46 x16_6).f0))) (fun _ hk=>hk.2) (.int .i64 ((rd_T57 x251001_46 x16_6).f1))) (fun _ hk=>hk.2) (.int .i64 ((rd_T57 x251001_46 x16_6).f2))) (fun _ hk=>hk.2) (.bool ((rd_T57 x251001_46 x16_6).f3))) (fun _ hk=>hk.1.1)⟩,⟨by (with_reducible repeat (first|apply Kd.Q_alloc|apply Kd.Q_drewN|apply Kd.Q_drew));exact qM (Kd.Q_far (p:=⟨Ba,3,none⟩) (Kd.Q_far (p:=⟨Ba,2,none⟩) (Kd.Q_far (p:=⟨Ba,1,none⟩) (Kd.Q_far (p:=⟨Ba,0,none⟩) (Kd.Q_types Bn.out Be.out (by decide)) (fun _ hk=>hk.2) (.int .i64 ((rd_T57 x251001_46 x16_6).f0))) (fun _ hk=>hk.2) (.int .i64 ((rd_T57 x251001_46 x16_6).f1))) (fun _ hk=>hk.2) (.int .i64 ((rd_T57 x251001_46 x16_6).f2))) (fun _ hk=>hk.2) (.bool ((rd_T57 x251001_46 x16_6).f3))) (fun _ hk=>hk.1)⟩,⟨by (with_reducible repeat (first|refine bN ?_ _|refine bD ?_|refine bA ?_ _|refine bE ?_ Bp.out _));exact Bb.out⟩,⟨by (with_reducible repeat (first|refine bN ?_ _|refine bD ?_|refine bA ?_ _|refine bE ?_ Bq.out _));exact Bi.out⟩,⟨by (with_reducible repeat (first|refine bN ?_ _|refine bD ?_|refine bA ?_ _|refine bE ?_ Br.out _));exact Bl.out⟩,⟨by repeat (first|(with_reducible first|exact HB.out|apply oA|apply pN|apply o1|refine bS ?_ Bo.out|refine bS ?_ Bs.out|refine bS ?_ Bt.out|refine bS ?_ BB.out)|exact HB.out)⟩⟩
               rw [if_pos c98] at H
               have c98b0:(((rd_T57 x251001_46 x16_6).f0) == 3)=true:=beq_iff_eq.mpr c98
               have c98b1:(((rd_T57 x251001_46 x16_6).f0) != 3)=false:=bne_eq_false_iff_eq.mpr c98
               clear c98
               obtain ⟨bq99,hbq99⟩:∃ b_:Bool,b_=((rd_T57 x251001_46 x16_6).f3):=⟨_,rfl⟩
               replace H:(if (bq99=true) then (if ((rd_T57 x251001_46 x16_6).f0)=1 then (laws_FnLockWord.l1 k6 l1 t240 x11_3 true true (wrap64 (x16_6 + 1)) x251000_46 x251001_46 x251002_46) else (laws_FnLockWord.l1 k6 l1 t240 x11_3 true (((rd_T57 x251001_46 x16_6).f0) == 2) (wrap64 (x16_6 + 1)) x251000_46 x251001_46 x251002_46)) else (laws_FnLockWord.l1 k6 l1 t240 x11_3 true true (wrap64 (x16_6 + 1)) x251000_46 x251001_46 x251002_46))=some r:=by rw [← hbq99] at H;exact H
               have Nbq99:=Am hbq99
               clear hbq99
               by_cases c100:(bq99=true)
               rotate_left
               ·as_aux_lemma=>
                 replace c100:=Bool.eq_false_iff.mpr c100
                 subst c100
                 have H1:(laws_FnLockWord.l1 k6 l1 t240 x11_3 true true (wrap64 (x16_6 + 1)) x251000_46 x251001_46 x251002_46)=some r:=by rw [if_neg (show ¬ (false=true) by decide)] at H;exact H
                 clear H
                 have H:=H1
                 clear H1
                 have H':=Am H
                 clear H
                 have QR:=Bz.out
                 have QS:=BA.out
                 have QT:=Bx.out
                 have QU:=By.out
                 have Fg:=cz0 Bb.out
                 have Fh:=cz1 Bb.out
                 have Fi:=cz2 Bb.out
                 have Fj:=bF Bb.out 0
                 have Fk:=bF Bb.out 1
                 have Fl:=bF Bb.out 2
                 obtain ⟨Ao123,co123,eo123⟩:=rC Bc.out
                 subst eo123
                 have p272:0≤(x16_6:Int):=oE (by first|(with_reducible assumption)|assumption)
                 have q272:x16_6<(x251001_46.length:Int):=oE (by first|(with_reducible assumption)|assumption)
                 obtain ⟨ad272,e272,hx272_0,hx272_1,hx272_2,hx272_3⟩:=at_T57 (rR Bc.out).2.2 x16_6 p272 q272
                 (try rw [← Nbq99.out] at hx272_3)
                 cases e272
                 replace p272:=eq_true p272
                 replace q272:=eq_true q272
                 go_wp2_with (first|((with_reducible refine gD (N:=17) rfl ?_);(try (refine gate_guard (by rfl) ?_;dsimp only));refine bI ?hg (N:=17) ?hd (cs:=#[.int .i64 0,.int .i64 0,.int .i64 0,.bool false]) (t:=57) ?hr ?_;(case hd=>rfl);(case hg=>rfl);(case hr=>first|(go_simp;done)|(go_simp;rfl));intro Ba hg w124 hbox hb;have n0_:=Am (rB (Kd.R_elderB (rL Bc.out) Ba (Nat.le_of_eq hg.symm)) hb);have n1_:=Am (Kd.Q_below (qL Bf.out) hb);have n2_:=Am (rB (Kd.R_elderB (rL Bg.out) Ba (Nat.le_of_eq hg.symm)) hb);have n3_:=Am (Kd.Q_below (qL Bh.out) hb);have n4_:=Am (rB (Kd.R_elderB (rL Bm.out) Ba (Nat.le_of_eq hg.symm)) hb);have n5_:=Am (Kd.Q_below (qL Bn.out) hb);have n6_:=Am (bX Bb.out hb);have n7_:=Am (bX Bi.out hb);have n8_:=Am (bX Bl.out hb);have n9_:=Am (bP (by repeat (first|(with_reducible first|exact HB.out|apply oA|apply pN|apply o1|refine bS ?_ Bo.out|refine bS ?_ Bs.out|refine bS ?_ Bt.out)|exact HB.out)) hb);have n10_:=Am (hbox);have n11_:=Am ((by rw [hg];exact (bZ (by repeat (first|(with_reducible first|exact HB.out|apply oA|apply pN|apply o1|refine bS ?_ Bo.out|refine bS ?_ Bs.out|refine bS ?_ Bt.out)|exact HB.out))):w.heap.size≤Ba));have n12_:=Am ((by rw [hg];exact (bZ (by repeat (first|(with_reducible first|exact HB.out|apply oA|apply pN|apply o1|refine bS ?_ Bo.out|refine bS ?_ Bs.out|refine bS ?_ Bt.out)|exact HB.out))):w.heap.size≤Ba));have n13_:=Am ((nL Bb.out hg));have n14_:=Am ((nG Bb.out hg));have n15_:=Am ((nL Bi.out hg));have n16_:=Am ((nG Bi.out hg));have n17_:=Am ((nL Bl.out hg));have n18_:=Am ((nG Bl.out hg));clear Bc Bf Bg Bh Bm Bn Bb Bi Bl HB;revert n0_ n1_ n2_ n3_ n4_ n5_ n6_ n7_ n8_ n9_ n10_ n11_ n12_ n13_ n14_ n15_ n16_ n17_ n18_;intro Bc Bf Bg Bh Bm Bn Bb Bi Bl HB Be BI BB Bp Bu Bq Bv Br Bw;clear hb hbox hg;have QV:=Bu.out;have QW:=Bp.out;have QX:=Bv.out;have QY:=Bq.out;have QZ:=Bw.out;have Q0:=Br.out;have Fm:=cz0 Be.out;have Fn:=cz1 Be.out;have Fo:=cz2 Be.out;have Fp:=cz3 Be.out;have Fq:=bF Be.out 0;have Fr:=bF Be.out 1;have Fs:=bF Be.out 2;have Ft:=bF Be.out 3))
                 go_roundg k6
                 case measure=>have:=BE.out;have:=BF.out;have:=HK3.out;have:=BC.out;have:=BD.out;have:=HK6.out;omega
                 case rel=>(try rw [← Nbq99.out]);exact ⟨(true),(true),(wrap64 (x16_6 + 1)),(by first|rfl|(simp;done)|(simp [*];done)),(by first|rfl|(simp;done)|(simp [*];done)),(by first|rfl|(simp;done)|(simp [*];done)),H',⟨by have:=BE.out;have:=BF.out;have:=HK3.out;have:=BC.out;have:=BD.out;have:=HK6.out;omega⟩,⟨by (with_reducible repeat (first|apply rA|apply rN|apply rD));exact rM (rF (p:=⟨Ba,3,none⟩) (rF (p:=⟨Ba,2,none⟩) (rF (p:=⟨Ba,1,none⟩) (rF (p:=⟨Ba,0,none⟩) (rM Bc.out (fun k_ hk=>(⟨hk,hk.2⟩:_∧k_≠Ba))) (fun _ hk=>hk.2) (.int .i64 ((rd_T57 x251001_46 x16_6).f0))) (fun _ hk=>hk.2) (.int .i64 ((rd_T57 x251001_46 x16_6).f1))) (fun _ hk=>hk.2) (.int .i64 ((rd_T57 x251001_46 x16_6).f2))) (fun _ hk=>hk.2) (.bool false)) (fun _ hk=>hk.1.1)⟩,⟨by (with_reducible repeat (first|apply Kd.Q_alloc|apply Kd.Q_drewN|apply Kd.Q_drew));exact qM (Kd.Q_far (p:=⟨Ba,3,none⟩) (Kd.Q_far (p:=⟨Ba,2,none⟩) (Kd.Q_far (p:=⟨Ba,1,none⟩) (Kd.Q_far (p:=⟨Ba,0,none⟩) (Kd.Q_types Bf.out Be.out (by decide)) (fun _ hk=>hk.2) (.int .i64 ((rd_T57 x251001_46 x16_6).f0))) (fun _ hk=>hk.2) (.int .i64 ((rd_T57 x251001_46 x16_6).f1))) (fun _ hk=>hk.2) (.int .i64 ((rd_T57 x251001_46 x16_6).f2))) (fun _ hk=>hk.2) (.bool false)) (fun _ hk=>hk.1)⟩,⟨by (with_reducible repeat (first|apply rA|apply rN|apply rD));exact rM (rF (p:=⟨Ba,3,none⟩) (rF (p:=⟨Ba,2,none⟩) (rF (p:=⟨Ba,1,none⟩) (rF (p:=⟨Ba,0,none⟩) (rM Bg.out (fun k_ hk=>(⟨hk,hk.2⟩:_∧k_≠Ba))) (fun _ hk=>hk.2) (.int .i64 ((rd_T57 x251001_46 x16_6).f0))) (fun _ hk=>hk.2) (.int .i64 ((rd_T57 x251001_46 x16_6).f1))) (fun _ hk=>hk.2) (.int .i64 ((rd_T57 x251001_46 x16_6).f2))) (fun _ hk=>hk.2) (.bool false)) (fun _ hk=>⟨hk.1.1.1,hk.1.1.2⟩)⟩,⟨by (with_reducible repeat (first|apply Kd.Q_alloc|apply Kd.Q_drewN|apply Kd.Q_drew));exact qM (Kd.Q_far (p:=⟨Ba,3,none⟩) (Kd.Q_far (p:=⟨Ba,2,none⟩) (Kd.Q_far (p:=⟨Ba,1,none⟩) (Kd.Q_far (p:=⟨Ba,0,none⟩) (Kd.Q_types Bh.out Be.out (by decide)) (fun _ hk=>hk.2) (.int .i64 ((rd_T57 x251001_46 x16_6).f0))) (fun _ hk=>hk.2) (.int .i64 ((rd_T57 x251001_46 x16_6).f1))) (fun _ hk=>hk.2) (.int .i64 ((rd_T57 x251001_46 x16_6).f2))) (fun _ hk=>hk.2) (.bool false)) (fun _ hk=>⟨hk.1.1,hk.1.2⟩)⟩,⟨by (with_reducible repeat (first|apply rA|apply rN|apply rD));exact rM (rF (p:=⟨Ba,3,none⟩) (rF (p:=⟨Ba,2,none⟩) (rF (p:=⟨Ba,1,none⟩) (rF (p:=⟨Ba,0,none⟩) (rM Bm.out (fun k_ hk=>(⟨hk,hk.2⟩:_∧k_≠Ba))) (fun _ hk=>hk.2) (.int .i64 ((rd_T57 x251001_46 x16_6).f0))) (fun _ hk=>hk.2) (.int .i64 ((rd_T57 x251001_46 x16_6).f1))) (fun _ hk=>hk.2) (.int .i64 ((rd_T57 x251001_46 x16_6).f2))) (fun _ hk=>hk.2) (.bool false)) (fun _ hk=>hk.1.1)⟩,⟨by (with_reducible repeat (first|apply Kd.Q_alloc|apply Kd.Q_drewN|apply Kd.Q_drew));exact qM (Kd.Q_far (p:=⟨Ba,3,none⟩) (Kd.Q_far (p:=⟨Ba,2,none⟩) (Kd.Q_far (p:=⟨Ba,1,none⟩) (Kd.Q_far (p:=⟨Ba,0,none⟩) (Kd.Q_types Bn.out Be.out (by decide)) (fun _ hk=>hk.2) (.int .i64 ((rd_T57 x251001_46 x16_6).f0))) (fun _ hk=>hk.2) (.int .i64 ((rd_T57 x251001_46 x16_6).f1))) (fun _ hk=>hk.2) (.int .i64 ((rd_T57 x251001_46 x16_6).f2))) (fun _ hk=>hk.2) (.bool false)) (fun _ hk=>hk.1)⟩,⟨by (with_reducible repeat (first|refine bN ?_ _|refine bD ?_|refine bA ?_ _|refine bE ?_ Bp.out _));exact Bb.out⟩,⟨by (with_reducible repeat (first|refine bN ?_ _|refine bD ?_|refine bA ?_ _|refine bE ?_ Bq.out _));exact Bi.out⟩,⟨by (with_reducible repeat (first|refine bN ?_ _|refine bD ?_|refine bA ?_ _|refine bE ?_ Br.out _));exact Bl.out⟩,⟨by repeat (first|(with_reducible first|exact HB.out|apply oA|apply pN|apply o1|refine bS ?_ Bo.out|refine bS ?_ Bs.out|refine bS ?_ Bt.out|refine bS ?_ BB.out)|exact HB.out)⟩⟩
               subst c100
               have H1:(if ((rd_T57 x251001_46 x16_6).f0)=1 then (laws_FnLockWord.l1 k6 l1 t240 x11_3 true true (wrap64 (x16_6 + 1)) x251000_46 x251001_46 x251002_46) else (laws_FnLockWord.l1 k6 l1 t240 x11_3 true (((rd_T57 x251001_46 x16_6).f0) == 2) (wrap64 (x16_6 + 1)) x251000_46 x251001_46 x251002_46))=some r:=by rw [if_pos rfl] at H;exact H
               clear H
               have H:=H1
               clear H1
               by_cases c101:((rd_T57 x251001_46 x16_6).f0)=1
               ·as_aux_lemma=>
                 rw [if_pos c101] at H
                 have c101b0:(((rd_T57 x251001_46 x16_6).f0) == 1)=true:=beq_iff_eq.mpr c101
                 have c101b1:(((rd_T57 x251001_46 x16_6).f0) != 1)=false:=bne_eq_false_iff_eq.mpr c101
                 clear c101
                 have H':=Am H
                 clear H
                 have Qx:=Bz.out
                 have Qy:=BA.out
                 have Qz:=Bx.out
                 have QA:=By.out
                 have DO:=cz0 Bb.out
                 have DP:=cz1 Bb.out
                 have DQ:=cz2 Bb.out
                 have DR:=bF Bb.out 0
                 have DS:=bF Bb.out 1
                 have DT:=bF Bb.out 2
                 obtain ⟨Ao105,co105,eo105⟩:=rC Bc.out
                 subst eo105
                 have p272:0≤(x16_6:Int):=oE (by first|(with_reducible assumption)|assumption)
                 have q272:x16_6<(x251001_46.length:Int):=oE (by first|(with_reducible assumption)|assumption)
                 obtain ⟨ad272,e272,hx272_0,hx272_1,hx272_2,hx272_3⟩:=at_T57 (rR Bc.out).2.2 x16_6 p272 q272
                 (try rw [← Nbq99.out] at hx272_3)
                 cases e272
                 replace p272:=eq_true p272
                 replace q272:=eq_true q272
                 go_wp2_with (first|((with_reducible refine gD (N:=17) rfl ?_);(try (refine gate_guard (by rfl) ?_;dsimp only));refine bI ?hg (N:=17) ?hd (cs:=#[.int .i64 0,.int .i64 0,.int .i64 0,.bool false]) (t:=57) ?hr ?_;(case hd=>rfl);(case hg=>rfl);(case hr=>first|(go_simp;done)|(go_simp;rfl));intro Ba hg w106 hbox hb;have n0_:=Am (rB (Kd.R_elderB (rL Bc.out) Ba (Nat.le_of_eq hg.symm)) hb);have n1_:=Am (Kd.Q_below (qL Bf.out) hb);have n2_:=Am (rB (Kd.R_elderB (rL Bg.out) Ba (Nat.le_of_eq hg.symm)) hb);have n3_:=Am (Kd.Q_below (qL Bh.out) hb);have n4_:=Am (rB (Kd.R_elderB (rL Bm.out) Ba (Nat.le_of_eq hg.symm)) hb);have n5_:=Am (Kd.Q_below (qL Bn.out) hb);have n6_:=Am (bX Bb.out hb);have n7_:=Am (bX Bi.out hb);have n8_:=Am (bX Bl.out hb);have n9_:=Am (bP (by repeat (first|(with_reducible first|exact HB.out|apply oA|apply pN|apply o1|refine bS ?_ Bo.out|refine bS ?_ Bs.out|refine bS ?_ Bt.out)|exact HB.out)) hb);have n10_:=Am (hbox);have n11_:=Am ((by rw [hg];exact (bZ (by repeat (first|(with_reducible first|exact HB.out|apply oA|apply pN|apply o1|refine bS ?_ Bo.out|refine bS ?_ Bs.out|refine bS ?_ Bt.out)|exact HB.out))):w.heap.size≤Ba));have n12_:=Am ((by rw [hg];exact (bZ (by repeat (first|(with_reducible first|exact HB.out|apply oA|apply pN|apply o1|refine bS ?_ Bo.out|refine bS ?_ Bs.out|refine bS ?_ Bt.out)|exact HB.out))):w.heap.size≤Ba));have n13_:=Am ((nL Bb.out hg));have n14_:=Am ((nG Bb.out hg));have n15_:=Am ((nL Bi.out hg));have n16_:=Am ((nG Bi.out hg));have n17_:=Am ((nL Bl.out hg));have n18_:=Am ((nG Bl.out hg));clear Bc Bf Bg Bh Bm Bn Bb Bi Bl HB;revert n0_ n1_ n2_ n3_ n4_ n5_ n6_ n7_ n8_ n9_ n10_ n11_ n12_ n13_ n14_ n15_ n16_ n17_ n18_;intro Bc Bf Bg Bh Bm Bn Bb Bi Bl HB Be BI BB Bp Bu Bq Bv Br Bw;clear hb hbox hg;have QB:=Bu.out;have QC:=Bp.out;have QD:=Bv.out;have QE:=Bq.out;have QF:=Bw.out;have QG:=Br.out;have DU:=cz0 Be.out;have DV:=cz1 Be.out;have DW:=cz2 Be.out;have DX:=cz3 Be.out;have DY:=bF Be.out 0;have DZ:=bF Be.out 1;have D0:=bF Be.out 2;have D1:=bF Be.out 3))
                 go_roundg k6
                 case measure=>have:=BE.out;have:=BF.out;have:=HK3.out;have:=BC.out;have:=BD.out;have:=HK6.out;omega
                 case rel=>(try rw [← Nbq99.out]);exact ⟨(true),(true),(wrap64 (x16_6 + 1)),(by first|rfl|(simp;done)|(simp [*];done)),(by first|rfl|(simp;done)|(simp [*];done)),(by first|rfl|(simp;done)|(simp [*];done)),H',⟨by have:=BE.out;have:=BF.out;have:=HK3.out;have:=BC.out;have:=BD.out;have:=HK6.out;omega⟩,⟨by (with_reducible repeat (first|apply rA|apply rN|apply rD));exact rM (rF (p:=⟨Ba,3,none⟩) (rF (p:=⟨Ba,2,none⟩) (rF (p:=⟨Ba,1,none⟩) (rF (p:=⟨Ba,0,none⟩) (rM Bc.out (fun k_ hk=>(⟨hk,hk.2⟩:_∧k_≠Ba))) (fun _ hk=>hk.2) (.int .i64 ((rd_T57 x251001_46 x16_6).f0))) (fun _ hk=>hk.2) (.int .i64 ((rd_T57 x251001_46 x16_6).f1))) (fun _ hk=>hk.2) (.int .i64 ((rd_T57 x251001_46 x16_6).f2))) (fun _ hk=>hk.2) (.bool true)) (fun _ hk=>hk.1.1)⟩,⟨by (with_reducible repeat (first|apply Kd.Q_alloc|apply Kd.Q_drewN|apply Kd.Q_drew));exact qM (Kd.Q_far (p:=⟨Ba,3,none⟩) (Kd.Q_far (p:=⟨Ba,2,none⟩) (Kd.Q_far (p:=⟨Ba,1,none⟩) (Kd.Q_far (p:=⟨Ba,0,none⟩) (Kd.Q_types Bf.out Be.out (by decide)) (fun _ hk=>hk.2) (.int .i64 ((rd_T57 x251001_46 x16_6).f0))) (fun _ hk=>hk.2) (.int .i64 ((rd_T57 x251001_46 x16_6).f1))) (fun _ hk=>hk.2) (.int .i64 ((rd_T57 x251001_46 x16_6).f2))) (fun _ hk=>hk.2) (.bool true)) (fun _ hk=>hk.1)⟩,⟨by (with_reducible repeat (first|apply rA|apply rN|apply rD));exact rM (rF (p:=⟨Ba,3,none⟩) (rF (p:=⟨Ba,2,none⟩) (rF (p:=⟨Ba,1,none⟩) (rF (p:=⟨Ba,0,none⟩) (rM Bg.out (fun k_ hk=>(⟨hk,hk.2⟩:_∧k_≠Ba))) (fun _ hk=>hk.2) (.int .i64 ((rd_T57 x251001_46 x16_6).f0))) (fun _ hk=>hk.2) (.int .i64 ((rd_T57 x251001_46 x16_6).f1))) (fun _ hk=>hk.2) (.int .i64 ((rd_T57 x251001_46 x16_6).f2))) (fun _ hk=>hk.2) (.bool true)) (fun _ hk=>⟨hk.1.1.1,hk.1.1.2⟩)⟩,⟨by (with_reducible repeat (first|apply Kd.Q_alloc|apply Kd.Q_drewN|apply Kd.Q_drew));exact qM (Kd.Q_far (p:=⟨Ba,3,none⟩) (Kd.Q_far (p:=⟨Ba,2,none⟩) (Kd.Q_far (p:=⟨Ba,1,none⟩) (Kd.Q_far (p:=⟨Ba,0,none⟩) (Kd.Q_types Bh.out Be.out (by decide)) (fun _ hk=>hk.2) (.int .i64 ((rd_T57 x251001_46 x16_6).f0))) (fun _ hk=>hk.2) (.int .i64 ((rd_T57 x251001_46 x16_6).f1))) (fun _ hk=>hk.2) (.int .i64 ((rd_T57 x251001_46 x16_6).f2))) (fun _ hk=>hk.2) (.bool true)) (fun _ hk=>⟨hk.1.1,hk.1.2⟩)⟩,⟨by (with_reducible repeat (first|apply rA|apply rN|apply rD));exact rM (rF (p:=⟨Ba,3,none⟩) (rF (p:=⟨Ba,2,none⟩) (rF (p:=⟨Ba,1,none⟩) (rF (p:=⟨Ba,0,none⟩) (rM Bm.out (fun k_ hk=>(⟨hk,hk.2⟩:_∧k_≠Ba))) (fun _ hk=>hk.2) (.int .i64 ((rd_T57 x251001_46 x16_6).f0))) (fun _ hk=>hk.2) (.int .i64 ((rd_T57 x251001_46 x16_6).f1))) (fun _ hk=>hk.2) (.int .i64 ((rd_T57 x251001_46 x16_6).f2))) (fun _ hk=>hk.2) (.bool true)) (fun _ hk=>hk.1.1)⟩,⟨by (with_reducible repeat (first|apply Kd.Q_alloc|apply Kd.Q_drewN|apply Kd.Q_drew));exact qM (Kd.Q_far (p:=⟨Ba,3,none⟩) (Kd.Q_far (p:=⟨Ba,2,none⟩) (Kd.Q_far (p:=⟨Ba,1,none⟩) (Kd.Q_far (p:=⟨Ba,0,none⟩) (Kd.Q_types Bn.out Be.out (by decide)) (fun _ hk=>hk.2) (.int .i64 ((rd_T57 x251001_46 x16_6).f0))) (fun _ hk=>hk.2) (.int .i64 ((rd_T57 x251001_46 x16_6).f1))) (fun _ hk=>hk.2) (.int .i64 ((rd_T57 x251001_46 x16_6).f2))) (fun _ hk=>hk.2) (.bool true)) (fun _ hk=>hk.1)⟩,⟨by (with_reducible repeat (first|refine bN ?_ _|refine bD ?_|refine bA ?_ _|refine bE ?_ Bp.out _));exact Bb.out⟩,⟨by (with_reducible repeat (first|refine bN ?_ _|refine bD ?_|refine bA ?_ _|refine bE ?_ Bq.out _));exact Bi.out⟩,⟨by (with_reducible repeat (first|refine bN ?_ _|refine bD ?_|refine bA ?_ _|refine bE ?_ Br.out _));exact Bl.out⟩,⟨by repeat (first|(with_reducible first|exact HB.out|apply oA|apply pN|apply o1|refine bS ?_ Bo.out|refine bS ?_ Bs.out|refine bS ?_ Bt.out|refine bS ?_ BB.out)|exact HB.out)⟩⟩
               rw [if_neg c101] at H
               have c101b0:(((rd_T57 x251001_46 x16_6).f0) == 1)=false:=beq_eq_false_iff_ne.mpr c101
               have c101b1:(((rd_T57 x251001_46 x16_6).f0) != 1)=true:=bne_iff_ne.mpr c101
               have H':=Am H
               clear H
               have QH:=Bz.out
               have QI:=BA.out
               have QJ:=Bx.out
               have QK:=By.out
               have D2:=cz0 Bb.out
               have D3:=cz1 Bb.out
               have D4:=cz2 Bb.out
               have D5:=bF Bb.out 0
               have D6:=bF Bb.out 1
               have D7:=bF Bb.out 2
               obtain ⟨Ao114,co114,eo114⟩:=rC Bc.out
               subst eo114
               have p272:0≤(x16_6:Int):=oE (by first|(with_reducible assumption)|assumption)
               have q272:x16_6<(x251001_46.length:Int):=oE (by first|(with_reducible assumption)|assumption)
               obtain ⟨ad272,e272,hx272_0,hx272_1,hx272_2,hx272_3⟩:=at_T57 (rR Bc.out).2.2 x16_6 p272 q272
               (try rw [← Nbq99.out] at hx272_3)
               cases e272
               replace p272:=eq_true p272
               replace q272:=eq_true q272
               go_wp2_with (first|((with_reducible refine gD (N:=17) rfl ?_);(try (refine gate_guard (by rfl) ?_;dsimp only));refine bI ?hg (N:=17) ?hd (cs:=#[.int .i64 0,.int .i64 0,.int .i64 0,.bool false]) (t:=57) ?hr ?_;(case hd=>rfl);(case hg=>rfl);(case hr=>first|(go_simp;done)|(go_simp;rfl));intro Ba hg w115 hbox hb;have n0_:=Am (rB (Kd.R_elderB (rL Bc.out) Ba (Nat.le_of_eq hg.symm)) hb);have n1_:=Am (Kd.Q_below (qL Bf.out) hb);have n2_:=Am (rB (Kd.R_elderB (rL Bg.out) Ba (Nat.le_of_eq hg.symm)) hb);have n3_:=Am (Kd.Q_below (qL Bh.out) hb);have n4_:=Am (rB (Kd.R_elderB (rL Bm.out) Ba (Nat.le_of_eq hg.symm)) hb);have n5_:=Am (Kd.Q_below (qL Bn.out) hb);have n6_:=Am (bX Bb.out hb);have n7_:=Am (bX Bi.out hb);have n8_:=Am (bX Bl.out hb);have n9_:=Am (bP (by repeat (first|(with_reducible first|exact HB.out|apply oA|apply pN|apply o1|refine bS ?_ Bo.out|refine bS ?_ Bs.out|refine bS ?_ Bt.out)|exact HB.out)) hb);have n10_:=Am (hbox);have n11_:=Am ((by rw [hg];exact (bZ (by repeat (first|(with_reducible first|exact HB.out|apply oA|apply pN|apply o1|refine bS ?_ Bo.out|refine bS ?_ Bs.out|refine bS ?_ Bt.out)|exact HB.out))):w.heap.size≤Ba));have n12_:=Am ((by rw [hg];exact (bZ (by repeat (first|(with_reducible first|exact HB.out|apply oA|apply pN|apply o1|refine bS ?_ Bo.out|refine bS ?_ Bs.out|refine bS ?_ Bt.out)|exact HB.out))):w.heap.size≤Ba));have n13_:=Am ((nL Bb.out hg));have n14_:=Am ((nG Bb.out hg));have n15_:=Am ((nL Bi.out hg));have n16_:=Am ((nG Bi.out hg));have n17_:=Am ((nL Bl.out hg));have n18_:=Am ((nG Bl.out hg));clear Bc Bf Bg Bh Bm Bn Bb Bi Bl HB;revert n0_ n1_ n2_ n3_ n4_ n5_ n6_ n7_ n8_ n9_ n10_ n11_ n12_ n13_ n14_ n15_ n16_ n17_ n18_;intro Bc Bf Bg Bh Bm Bn Bb Bi Bl HB Be BI BB Bp Bu Bq Bv Br Bw;clear hb hbox hg;have QL:=Bu.out;have QM:=Bp.out;have QN:=Bv.out;have QO:=Bq.out;have QP:=Bw.out;have QQ:=Br.out;have D8:=cz0 Be.out;have D9:=cz1 Be.out;have Fa:=cz2 Be.out;have Fb:=cz3 Be.out;have Fc:=bF Be.out 0;have Fd:=bF Be.out 1;have Fe:=bF Be.out 2;have Ff:=bF Be.out 3))
               go_roundg k6
               case measure=>have:=BE.out;have:=BF.out;have:=HK3.out;have:=BC.out;have:=BD.out;have:=HK6.out;omega
               case rel=>(try rw [← Nbq99.out]);exact ⟨(true),((((rd_T57 x251001_46 x16_6).f0) == 2)),(wrap64 (x16_6 + 1)),(by first|rfl|(simp;done)|(simp [*];done)),(by first|rfl|(simp;done)|(simp [*];done)),(by first|rfl|(simp;done)|(simp [*];done)),H',⟨by have:=BE.out;have:=BF.out;have:=HK3.out;have:=BC.out;have:=BD.out;have:=HK6.out;omega⟩,⟨by (with_reducible repeat (first|apply rA|apply rN|apply rD));exact rM (rF (p:=⟨Ba,3,none⟩) (rF (p:=⟨Ba,2,none⟩) (rF (p:=⟨Ba,1,none⟩) (rF (p:=⟨Ba,0,none⟩) (rM Bc.out (fun k_ hk=>(⟨hk,hk.2⟩:_∧k_≠Ba))) (fun _ hk=>hk.2) (.int .i64 ((rd_T57 x251001_46 x16_6).f0))) (fun _ hk=>hk.2) (.int .i64 ((rd_T57 x251001_46 x16_6).f1))) (fun _ hk=>hk.2) (.int .i64 ((rd_T57 x251001_46 x16_6).f2))) (fun _ hk=>hk.2) (.bool true)) (fun _ hk=>hk.1.1)⟩,⟨by (with_reducible repeat (first|apply Kd.Q_alloc|apply Kd.Q_drewN|apply Kd.Q_drew));exact qM (Kd.Q_far (p:=⟨Ba,3,none⟩) (Kd.Q_far (p:=⟨Ba,2,none⟩) (Kd.Q_far (p:=⟨Ba,1,none⟩) (Kd.Q_far (p:=⟨Ba,0,none⟩) (Kd.Q_types Bf.out Be.out (by decide)) (fun _ hk=>hk.2) (.int .i64 ((rd_T57 x251001_46 x16_6).f0))) (fun _ hk=>hk.2) (.int .i64 ((rd_T57 x251001_46 x16_6).f1))) (fun _ hk=>hk.2) (.int .i64 ((rd_T57 x251001_46 x16_6).f2))) (fun _ hk=>hk.2) (.bool true)) (fun _ hk=>hk.1)⟩,⟨by (with_reducible repeat (first|apply rA|apply rN|apply rD));exact rM (rF (p:=⟨Ba,3,none⟩) (rF (p:=⟨Ba,2,none⟩) (rF (p:=⟨Ba,1,none⟩) (rF (p:=⟨Ba,0,none⟩) (rM Bg.out (fun k_ hk=>(⟨hk,hk.2⟩:_∧k_≠Ba))) (fun _ hk=>hk.2) (.int .i64 ((rd_T57 x251001_46 x16_6).f0))) (fun _ hk=>hk.2) (.int .i64 ((rd_T57 x251001_46 x16_6).f1))) (fun _ hk=>hk.2) (.int .i64 ((rd_T57 x251001_46 x16_6).f2))) (fun _ hk=>hk.2) (.bool true)) (fun _ hk=>⟨hk.1.1.1,hk.1.1.2⟩)⟩,⟨by (with_reducible repeat (first|apply Kd.Q_alloc|apply Kd.Q_drewN|apply Kd.Q_drew));exact qM (Kd.Q_far (p:=⟨Ba,3,none⟩) (Kd.Q_far (p:=⟨Ba,2,none⟩) (Kd.Q_far (p:=⟨Ba,1,none⟩) (Kd.Q_far (p:=⟨Ba,0,none⟩) (Kd.Q_types Bh.out Be.out (by decide)) (fun _ hk=>hk.2) (.int .i64 ((rd_T57 x251001_46 x16_6).f0))) (fun _ hk=>hk.2) (.int .i64 ((rd_T57 x251001_46 x16_6).f1))) (fun _ hk=>hk.2) (.int .i64 ((rd_T57 x251001_46 x16_6).f2))) (fun _ hk=>hk.2) (.bool true)) (fun _ hk=>⟨hk.1.1,hk.1.2⟩)⟩,⟨by (with_reducible repeat (first|apply rA|apply rN|apply rD));exact rM (rF (p:=⟨Ba,3,none⟩) (rF (p:=⟨Ba,2,none⟩) (rF (p:=⟨Ba,1,none⟩) (rF (p:=⟨Ba,0,none⟩) (rM Bm.out (fun k_ hk=>(⟨hk,hk.2⟩:_∧k_≠Ba))) (fun _ hk=>hk.2) (.int .i64 ((rd_T57 x251001_46 x16_6).f0))) (fun _ hk=>hk.2) (.int .i64 ((rd_T57 x251001_46 x16_6).f1))) (fun _ hk=>hk.2) (.int .i64 ((rd_T57 x251001_46 x16_6).f2))) (fun _ hk=>hk.2) (.bool true)) (fun _ hk=>hk.1.1)⟩,⟨by (with_reducible repeat (first|apply Kd.Q_alloc|apply Kd.Q_drewN|apply Kd.Q_drew));exact qM (Kd.Q_far (p:=⟨Ba,3,none⟩) (Kd.Q_far (p:=⟨Ba,2,none⟩) (Kd.Q_far (p:=⟨Ba,1,none⟩) (Kd.Q_far (p:=⟨Ba,0,none⟩) (Kd.Q_types Bn.out Be.out (by decide)) (fun _ hk=>hk.2) (.int .i64 ((rd_T57 x251001_46 x16_6).f0))) (fun _ hk=>hk.2) (.int .i64 ((rd_T57 x251001_46 x16_6).f1))) (fun _ hk=>hk.2) (.int .i64 ((rd_T57 x251001_46 x16_6).f2))) (fun _ hk=>hk.2) (.bool true)) (fun _ hk=>hk.1)⟩,⟨by (with_reducible repeat (first|refine bN ?_ _|refine bD ?_|refine bA ?_ _|refine bE ?_ Bp.out _));exact Bb.out⟩,⟨by (with_reducible repeat (first|refine bN ?_ _|refine bD ?_|refine bA ?_ _|refine bE ?_ Bq.out _));exact Bi.out⟩,⟨by (with_reducible repeat (first|refine bN ?_ _|refine bD ?_|refine bA ?_ _|refine bE ?_ Br.out _));exact Bl.out⟩,⟨by repeat (first|(with_reducible first|exact HB.out|apply oA|apply pN|apply o1|refine bS ?_ Bo.out|refine bS ?_ Bs.out|refine bS ?_ Bt.out|refine bS ?_ BB.out)|exact HB.out)⟩⟩
             replace c67:=Bool.eq_false_iff.mpr c67
             subst c67
             have H1:(if ((rd_T57 x251001_46 x16_6).f0)=4 then (if x15_6=true then (laws_FnLockWord.l1 k6 l1 t240 x11_3 true true (wrap64 (x16_6 + 1)) x251000_46 x251001_46 x251002_46) else (if ((rd_T57 x251001_46 x16_6).f0)=5 then (laws_FnLockWord.l1 k6 l1 t240 x11_3 true true (wrap64 (x16_6 + 1)) x251000_46 x251001_46 x251002_46) else (if ((rd_T57 x251001_46 x16_6).f0)=6 then (laws_FnLockWord.l1 k6 l1 t240 x11_3 true true (wrap64 (x16_6 + 1)) x251000_46 x251001_46 x251002_46) else (if ((rd_T57 x251001_46 x16_6).f0)=3 then (if ((rd_T57 x251001_46 x16_6).f3=true) then (if ((rd_T57 x251001_46 x16_6).f0)=1 then (laws_FnLockWord.l1 k6 l1 t240 x11_3 true true (wrap64 (x16_6 + 1)) x251000_46 x251001_46 x251002_46) else (laws_FnLockWord.l1 k6 l1 t240 x11_3 true (((rd_T57 x251001_46 x16_6).f0) == 2) (wrap64 (x16_6 + 1)) x251000_46 x251001_46 x251002_46)) else (laws_FnLockWord.l1 k6 l1 t240 x11_3 true true (wrap64 (x16_6 + 1)) x251000_46 x251001_46 x251002_46)) else (if ((rd_T57 x251001_46 x16_6).f0)=1 then (laws_FnLockWord.l1 k6 l1 t240 x11_3 true true (wrap64 (x16_6 + 1)) x251000_46 x251001_46 x251002_46) else (laws_FnLockWord.l1 k6 l1 t240 x11_3 true (((rd_T57 x251001_46 x16_6).f0) == 2) (wrap64 (x16_6 + 1)) x251000_46 x251001_46 x251002_46)))))) else (if x15_6=true then (laws_FnLockWord.l1 k6 l1 t240 x11_3 (((rd_T57 x251001_46 x16_6).f0) == 5) true (wrap64 (x16_6 + 1)) x251000_46 x251001_46 x251002_46) else (if ((rd_T57 x251001_46 x16_6).f0)=5 then (laws_FnLockWord.l1 k6 l1 t240 x11_3 (((rd_T57 x251001_46 x16_6).f0) == 5) true (wrap64 (x16_6 + 1)) x251000_46 x251001_46 x251002_46) else (if ((rd_T57 x251001_46 x16_6).f0)=6 then (laws_FnLockWord.l1 k6 l1 t240 x11_3 (((rd_T57 x251001_46 x16_6).f0) == 5) true (wrap64 (x16_6 + 1)) x251000_46 x251001_46 x251002_46) else (if ((rd_T57 x251001_46 x16_6).f0)=3 then (if ((rd_T57 x251001_46 x16_6).f3=true) then (if ((rd_T57 x251001_46 x16_6).f0)=1 then (laws_FnLockWord.l1 k6 l1 t240 x11_3 (((rd_T57 x251001_46 x16_6).f0) == 5) true (wrap64 (x16_6 + 1)) x251000_46 x251001_46 x251002_46) else (laws_FnLockWord.l1 k6 l1 t240 x11_3 (((rd_T57 x251001_46 x16_6).f0) == 5) (((rd_T57 x251001_46 x16_6).f0) == 2) (wrap64 (x16_6 + 1)) x251000_46 x251001_46 x251002_46)) else (laws_FnLockWord.l1 k6 l1 t240 x11_3 (((rd_T57 x251001_46 x16_6).f0) == 5) true (wrap64 (x16_6 + 1)) x251000_46 x251001_46 x251002_46)) else (if ((rd_T57 x251001_46 x16_6).f0)=1 then (laws_FnLockWord.l1 k6 l1 t240 x11_3 (((rd_T57 x251001_46 x16_6).f0) == 5) true (wrap64 (x16_6 + 1)) x251000_46 x251001_46 x251002_46) else (laws_FnLockWord.l1 k6 l1 t240 x11_3 (((rd_T57 x251001_46 x16_6).f0) == 5) (((rd_T57 x251001_46 x16_6).f0) == 2) (wrap64 (x16_6 + 1)) x251000_46 x251001_46 x251002_46)))))))=some r:=by rw [if_neg (show ¬ (false=true) by decide)] at H;exact H
             clear H
             have H:=H1
             clear H1
             by_cases c148:((rd_T57 x251001_46 x16_6).f0)=4
             ·as_aux_lemma=>
               rw [if_pos c148] at H
               have c148b0:(((rd_T57 x251001_46 x16_6).f0) == 4)=true:=beq_iff_eq.mpr c148
               have c148b1:(((rd_T57 x251001_46 x16_6).f0) != 4)=false:=bne_eq_false_iff_eq.mpr c148
               clear c148
               by_cases c149:x15_6=true
               ·as_aux_lemma=>
                 subst c149
                 have H1:(laws_FnLockWord.l1 k6 l1 t240 x11_3 true true (wrap64 (x16_6 + 1)) x251000_46 x251001_46 x251002_46)=some r:=by rw [if_pos rfl] at H;exact H
                 clear H
                 have H:=H1
                 clear H1
                 have H':=Am H
                 clear H
                 have Vl:=Bz.out
                 have Vm:=BA.out
                 have Vn:=Bx.out
                 have Vo:=By.out
                 have FW:=cz0 Bb.out
                 have FX:=cz1 Bb.out
                 have FY:=cz2 Bb.out
                 have FZ:=bF Bb.out 0
                 have F0:=bF Bb.out 1
                 have F1:=bF Bb.out 2
                 obtain ⟨Ao153,co153,eo153⟩:=rC Bc.out
                 subst eo153
                 have p272:0≤(x16_6:Int):=oE (by first|(with_reducible assumption)|assumption)
                 have q272:x16_6<(x251001_46.length:Int):=oE (by first|(with_reducible assumption)|assumption)
                 obtain ⟨ad272,e272,hx272_0,hx272_1,hx272_2,hx272_3⟩:=at_T57 (rR Bc.out).2.2 x16_6 p272 q272
                 cases e272
                 replace p272:=eq_true p272
                 replace q272:=eq_true q272
                 go_wp2_with (first|((with_reducible refine gD (N:=17) rfl ?_);(try (refine gate_guard (by rfl) ?_;dsimp only));refine bI ?hg (N:=17) ?hd (cs:=#[.int .i64 0,.int .i64 0,.int .i64 0,.bool false]) (t:=57) ?hr ?_;(case hd=>rfl);(case hg=>rfl);(case hr=>first|(go_simp;done)|(go_simp;rfl));intro Ba hg w154 hbox hb;have n0_:=Am (rB (Kd.R_elderB (rL Bc.out) Ba (Nat.le_of_eq hg.symm)) hb);have n1_:=Am (Kd.Q_below (qL Bf.out) hb);have n2_:=Am (rB (Kd.R_elderB (rL Bg.out) Ba (Nat.le_of_eq hg.symm)) hb);have n3_:=Am (Kd.Q_below (qL Bh.out) hb);have n4_:=Am (rB (Kd.R_elderB (rL Bm.out) Ba (Nat.le_of_eq hg.symm)) hb);have n5_:=Am (Kd.Q_below (qL Bn.out) hb);have n6_:=Am (bX Bb.out hb);have n7_:=Am (bX Bi.out hb);have n8_:=Am (bX Bl.out hb);have n9_:=Am (bP (by repeat (first|(with_reducible first|exact HB.out|apply oA|apply pN|apply o1|refine bS ?_ Bo.out|refine bS ?_ Bs.out|refine bS ?_ Bt.out)|exact HB.out)) hb);have n10_:=Am (hbox);have n11_:=Am ((by rw [hg];exact (bZ (by repeat (first|(with_reducible first|exact HB.out|apply oA|apply pN|apply o1|refine bS ?_ Bo.out|refine bS ?_ Bs.out|refine bS ?_ Bt.out)|exact HB.out))):w.heap.size≤Ba));have n12_:=Am ((by rw [hg];exact (bZ (by repeat (first|(with_reducible first|exact HB.out|apply oA|apply pN|apply o1|refine bS ?_ Bo.out|refine bS ?_ Bs.out|refine bS ?_ Bt.out)|exact HB.out))):w.heap.size≤Ba));have n13_:=Am ((nL Bb.out hg));have n14_:=Am ((nG Bb.out hg));have n15_:=Am ((nL Bi.out hg));have n16_:=Am ((nG Bi.out hg));have n17_:=Am ((nL Bl.out hg));have n18_:=Am ((nG Bl.out hg));clear Bc Bf Bg Bh Bm Bn Bb Bi Bl HB;revert n0_ n1_ n2_ n3_ n4_ n5_ n6_ n7_ n8_ n9_ n10_ n11_ n12_ n13_ n14_ n15_ n16_ n17_ n18_;intro Bc Bf Bg Bh Bm Bn Bb Bi Bl HB Be BI BB Bp Bu Bq Bv Br Bw;clear hb hbox hg;have Vp:=Bu.out;have Vq:=Bp.out;have Vr:=Bv.out;have Vs:=Bq.out;have Vt:=Bw.out;have Vu:=Br.out;have F2:=cz0 Be.out;have F3:=cz1 Be.out;have F4:=cz2 Be.out;have F5:=cz3 Be.out;have F6:=bF Be.out 0;have F7:=bF Be.out 1;have F8:=bF Be.out 2;have F9:=bF Be.out 3))
                 go_roundg k6
                 case measure=>have:=BE.out;have:=BF.out;have:=HK3.out;have:=BC.out;have:=BD.out;have:=HK6.out;omega
                 case rel=>exact ⟨(true),(true),(wrap64 (x16_6 + 1)),(by first|rfl|(simp;done)|(simp [*];done)),(by first|rfl|(simp;done)|(simp [*];done)),(by first|rfl|(simp;done)|(simp [*];done)),H',⟨by have:=BE.out;have:=BF.out;have:=HK3.out;have:=BC.out;have:=BD.out;have:=HK6.out;omega⟩,⟨by (with_reducible repeat (first|apply rA|apply rN|apply rD));exact rM (rF (p:=⟨Ba,3,none⟩) (rF (p:=⟨Ba,2,none⟩) (rF (p:=⟨Ba,1,none⟩) (rF (p:=⟨Ba,0,none⟩) (rM Bc.out (fun k_ hk=>(⟨hk,hk.2⟩:_∧k_≠Ba))) (fun _ hk=>hk.2) (.int .i64 ((rd_T57 x251001_46 x16_6).f0))) (fun _ hk=>hk.2) (.int .i64 ((rd_T57 x251001_46 x16_6).f1))) (fun _ hk=>hk.2) (.int .i64 ((rd_T57 x251001_46 x16_6).f2))) (fun _ hk=>hk.2) (.bool ((rd_T57 x251001_46 x16_6).f3))) (fun _ hk=>hk.1.1)⟩,⟨by (with_reducible repeat (first|apply Kd.Q_alloc|apply Kd.Q_drewN|apply Kd.Q_drew));exact qM (Kd.Q_far (p:=⟨Ba,3,none⟩) (Kd.Q_far (p:=⟨Ba,2,none⟩) (Kd.Q_far (p:=⟨Ba,1,none⟩) (Kd.Q_far (p:=⟨Ba,0,none⟩) (Kd.Q_types Bf.out Be.out (by decide)) (fun _ hk=>hk.2) (.int .i64 ((rd_T57 x251001_46 x16_6).f0))) (fun _ hk=>hk.2) (.int .i64 ((rd_T57 x251001_46 x16_6).f1))) (fun _ hk=>hk.2) (.int .i64 ((rd_T57 x251001_46 x16_6).f2))) (fun _ hk=>hk.2) (.bool ((rd_T57 x251001_46 x16_6).f3))) (fun _ hk=>hk.1)⟩,⟨by (with_reducible repeat (first|apply rA|apply rN|apply rD));exact rM (rF (p:=⟨Ba,3,none⟩) (rF (p:=⟨Ba,2,none⟩) (rF (p:=⟨Ba,1,none⟩) (rF (p:=⟨Ba,0,none⟩) (rM Bg.out (fun k_ hk=>(⟨hk,hk.2⟩:_∧k_≠Ba))) (fun _ hk=>hk.2) (.int .i64 ((rd_T57 x251001_46 x16_6).f0))) (fun _ hk=>hk.2) (.int .i64 ((rd_T57 x251001_46 x16_6).f1))) (fun _ hk=>hk.2) (.int .i64 ((rd_T57 x251001_46 x16_6).f2))) (fun _ hk=>hk.2) (.bool ((rd_T57 x251001_46 x16_6).f3))) (fun _ hk=>⟨hk.1.1.1,hk.1.1.2⟩)⟩,⟨by (with_reducible repeat (first|apply Kd.Q_alloc|apply Kd.Q_drewN|apply Kd.Q_drew));exact qM (Kd.Q_far (p:=⟨Ba,3,none⟩) (Kd.Q_far (p:=⟨Ba,2,none⟩) (Kd.Q_far (p:=⟨Ba,1,none⟩) (Kd.Q_far (p:=⟨Ba,0,none⟩) (Kd.Q_types Bh.out Be.out (by decide)) (fun _ hk=>hk.2) (.int .i64 ((rd_T57 x251001_46 x16_6).f0))) (fun _ hk=>hk.2) (.int .i64 ((rd_T57 x251001_46 x16_6).f1))) (fun _ hk=>hk.2) (.int .i64 ((rd_T57 x251001_46 x16_6).f2))) (fun _ hk=>hk.2) (.bool ((rd_T57 x251001_46 x16_6).f3))) (fun _ hk=>⟨hk.1.1,hk.1.2⟩)⟩,⟨by (with_reducible repeat (first|apply rA|apply rN|apply rD));exact rM (rF (p:=⟨Ba,3,none⟩) (rF (p:=⟨Ba,2,none⟩) (rF (p:=⟨Ba,1,none⟩) (rF (p:=⟨Ba,0,none⟩) (rM Bm.out (fun k_ hk=>(⟨hk,hk.2⟩:_∧k_≠Ba))) (fun _ hk=>hk.2) (.int .i64 ((rd_T57 x251001_46 x16_6).f0))) (fun _ hk=>hk.2) (.int .i64 ((rd_T57 x251001_46 x16_6).f1))) (fun _ hk=>hk.2) (.int .i64 ((rd_T57 x251001_46 x16_6).f2))) (fun _ hk=>hk.2) (.bool ((rd_T57 x251001_46 x16_6).f3))) (fun _ hk=>hk.1.1)⟩,⟨by (with_reducible repeat (first|apply Kd.Q_alloc|apply Kd.Q_drewN|apply Kd.Q_drew));exact qM (Kd.Q_far (p:=⟨Ba,3,none⟩) (Kd.Q_far (p:=⟨Ba,2,none⟩) (Kd.Q_far (p:=⟨Ba,1,none⟩) (Kd.Q_far (p:=⟨Ba,0,none⟩) (Kd.Q_types Bn.out Be.out (by decide)) (fun _ hk=>hk.2) (.int .i64 ((rd_T57 x251001_46 x16_6).f0))) (fun _ hk=>hk.2) (.int .i64 ((rd_T57 x251001_46 x16_6).f1))) (fun _ hk=>hk.2) (.int .i64 ((rd_T57 x251001_46 x16_6).f2))) (fun _ hk=>hk.2) (.bool ((rd_T57 x251001_46 x16_6).f3))) (fun _ hk=>hk.1)⟩,⟨by (with_reducible repeat (first|refine bN ?_ _|refine bD ?_|refine bA ?_ _|refine bE ?_ Bp.out _));exact Bb.out⟩,⟨by (with_reducible repeat (first|refine bN ?_ _|refine bD ?_|refine bA ?_ _|refine bE ?_ Bq.out _));exact Bi.out⟩,⟨by (with_reducible repeat (first|refine bN ?_ _|refine bD ?_|refine bA ?_ _|refine bE ?_ Br.out _));exact Bl.out⟩,⟨by repeat (first|(with_reducible first|exact HB.out|apply oA|apply pN|apply o1|refine bS ?_ Bo.out|refine bS ?_ Bs.out|refine bS ?_ Bt.out|refine bS ?_ BB.out)|exact HB.out)⟩⟩
               replace c149:=Bool.eq_false_iff.mpr c149
               subst c149
               have H1:(if ((rd_T57 x251001_46 x16_6).f0)=5 then (laws_FnLockWord.l1 k6 l1 t240 x11_3 true true (wrap64 (x16_6 + 1)) x251000_46 x251001_46 x251002_46) else (if ((rd_T57 x251001_46 x16_6).f0)=6 then (laws_FnLockWord.l1 k6 l1 t240 x11_3 true true (wrap64 (x16_6 + 1)) x251000_46 x251001_46 x251002_46) else (if ((rd_T57 x251001_46 x16_6).f0)=3 then (if ((rd_T57 x251001_46 x16_6).f3=true) then (if ((rd_T57 x251001_46 x16_6).f0)=1 then (laws_FnLockWord.l1 k6 l1 t240 x11_3 true true (wrap64 (x16_6 + 1)) x251000_46 x251001_46 x251002_46) else (laws_FnLockWord.l1 k6 l1 t240 x11_3 true (((rd_T57 x251001_46 x16_6).f0) == 2) (wrap64 (x16_6 + 1)) x251000_46 x251001_46 x251002_46)) else (laws_FnLockWord.l1 k6 l1 t240 x11_3 true true (wrap64 (x16_6 + 1)) x251000_46 x251001_46 x251002_46)) else (if ((rd_T57 x251001_46 x16_6).f0)=1 then (laws_FnLockWord.l1 k6 l1 t240 x11_3 true true (wrap64 (x16_6 + 1)) x251000_46 x251001_46 x251002_46) else (laws_FnLockWord.l1 k6 l1 t240 x11_3 true (((rd_T57 x251001_46 x16_6).f0) == 2) (wrap64 (x16_6 + 1)) x251000_46 x251001_46 x251002_46)))))=some r:=by rw [if_neg (show ¬ (false=true) by decide)] at H;exact H
               clear H
               have H:=H1
               clear H1
               by_cases c159:((rd_T57 x251001_46 x16_6).f0)=5
               ·as_aux_lemma=>
                 rw [if_pos c159] at H
                 have c159b0:(((rd_T57 x251001_46 x16_6).f0) == 5)=true:=beq_iff_eq.mpr c159
                 have c159b1:(((rd_T57 x251001_46 x16_6).f0) != 5)=false:=bne_eq_false_iff_eq.mpr c159
                 clear c159
                 have H':=Am H
                 clear H
                 have Vv:=Bz.out
                 have Vw:=BA.out
                 have Vx:=Bx.out
                 have Vy:=By.out
                 have Ga:=cz0 Bb.out
                 have Gb:=cz1 Bb.out
                 have Gc:=cz2 Bb.out
                 have Gd:=bF Bb.out 0
                 have Ge:=bF Bb.out 1
                 have Gf:=bF Bb.out 2
                 obtain ⟨Ao163,co163,eo163⟩:=rC Bc.out
                 subst eo163
                 have p272:0≤(x16_6:Int):=oE (by first|(with_reducible assumption)|assumption)
                 have q272:x16_6<(x251001_46.length:Int):=oE (by first|(with_reducible assumption)|assumption)
                 obtain ⟨ad272,e272,hx272_0,hx272_1,hx272_2,hx272_3⟩:=at_T57 (rR Bc.out).2.2 x16_6 p272 q272
                 cases e272
                 replace p272:=eq_true p272
                 replace q272:=eq_true q272
                 go_wp2_with (first|((with_reducible refine gD (N:=17) rfl ?_);(try (refine gate_guard (by rfl) ?_;dsimp only));refine bI ?hg (N:=17) ?hd (cs:=#[.int .i64 0,.int .i64 0,.int .i64 0,.bool false]) (t:=57) ?hr ?_;(case hd=>rfl);(case hg=>rfl);(case hr=>first|(go_simp;done)|(go_simp;rfl));intro Ba hg w164 hbox hb;have n0_:=Am (rB (Kd.R_elderB (rL Bc.out) Ba (Nat.le_of_eq hg.symm)) hb);have n1_:=Am (Kd.Q_below (qL Bf.out) hb);have n2_:=Am (rB (Kd.R_elderB (rL Bg.out) Ba (Nat.le_of_eq hg.symm)) hb);have n3_:=Am (Kd.Q_below (qL Bh.out) hb);have n4_:=Am (rB (Kd.R_elderB (rL Bm.out) Ba (Nat.le_of_eq hg.symm)) hb);have n5_:=Am (Kd.Q_below (qL Bn.out) hb);have n6_:=Am (bX Bb.out hb);have n7_:=Am (bX Bi.out hb);have n8_:=Am (bX Bl.out hb);have n9_:=Am (bP (by repeat (first|(with_reducible first|exact HB.out|apply oA|apply pN|apply o1|refine bS ?_ Bo.out|refine bS ?_ Bs.out|refine bS ?_ Bt.out)|exact HB.out)) hb);have n10_:=Am (hbox);have n11_:=Am ((by rw [hg];exact (bZ (by repeat (first|(with_reducible first|exact HB.out|apply oA|apply pN|apply o1|refine bS ?_ Bo.out|refine bS ?_ Bs.out|refine bS ?_ Bt.out)|exact HB.out))):w.heap.size≤Ba));have n12_:=Am ((by rw [hg];exact (bZ (by repeat (first|(with_reducible first|exact HB.out|apply oA|apply pN|apply o1|refine bS ?_ Bo.out|refine bS ?_ Bs.out|refine bS ?_ Bt.out)|exact HB.out))):w.heap.size≤Ba));have n13_:=Am ((nL Bb.out hg));have n14_:=Am ((nG Bb.out hg));have n15_:=Am ((nL Bi.out hg));have n16_:=Am ((nG Bi.out hg));have n17_:=Am ((nL Bl.out hg));have n18_:=Am ((nG Bl.out hg));clear Bc Bf Bg Bh Bm Bn Bb Bi Bl HB;revert n0_ n1_ n2_ n3_ n4_ n5_ n6_ n7_ n8_ n9_ n10_ n11_ n12_ n13_ n14_ n15_ n16_ n17_ n18_;intro Bc Bf Bg Bh Bm Bn Bb Bi Bl HB Be BI BB Bp Bu Bq Bv Br Bw;clear hb hbox hg;have Vz:=Bu.out;have VA:=Bp.out;have VB:=Bv.out;have VC:=Bq.out;have VD:=Bw.out;have VE:=Br.out;have Gg:=cz0 Be.out;have Gh:=cz1 Be.out;have Gi:=cz2 Be.out;have Gj:=cz3 Be.out;have Gk:=bF Be.out 0;have Gl:=bF Be.out 1;have Gm:=bF Be.out 2;have Gn:=bF Be.out 3))
                 go_roundg k6
                 case measure=>have:=BE.out;have:=BF.out;have:=HK3.out;have:=BC.out;have:=BD.out;have:=HK6.out;omega
                 case rel=>exact ⟨(true),(true),(wrap64 (x16_6 + 1)),(by first|rfl|(simp;done)|(simp [*];done)),(by first|rfl|(simp;done)|(simp [*];done)),(by first|rfl|(simp;done)|(simp [*];done)),H',⟨by have:=BE.out;have:=BF.out;have:=HK3.out;have:=BC.out;have:=BD.out;have:=HK6.out;omega⟩,⟨by (with_reducible repeat (first|apply rA|apply rN|apply rD));exact rM (rF (p:=⟨Ba,3,none⟩) (rF (p:=⟨Ba,2,none⟩) (rF (p:=⟨Ba,1,none⟩) (rF (p:=⟨Ba,0,none⟩) (rM Bc.out (fun k_ hk=>(⟨hk,hk.2⟩:_∧k_≠Ba))) (fun _ hk=>hk.2) (.int .i64 ((rd_T57 x251001_46 x16_6).f0))) (fun _ hk=>hk.2) (.int .i64 ((rd_T57 x251001_46 x16_6).f1))) (fun _ hk=>hk.2) (.int .i64 ((rd_T57 x251001_46 x16_6).f2))) (fun _ hk=>hk.2) (.bool ((rd_T57 x251001_46 x16_6).f3))) (fun _ hk=>hk.1.1)⟩,⟨by (with_reducible repeat (first|apply Kd.Q_alloc|apply Kd.Q_drewN|apply Kd.Q_drew));exact qM (Kd.Q_far (p:=⟨Ba,3,none⟩) (Kd.Q_far (p:=⟨Ba,2,none⟩) (Kd.Q_far (p:=⟨Ba,1,none⟩) (Kd.Q_far (p:=⟨Ba,0,none⟩) (Kd.Q_types Bf.out Be.out (by decide)) (fun _ hk=>hk.2) (.int .i64 ((rd_T57 x251001_46 x16_6).f0))) (fun _ hk=>hk.2) (.int .i64 ((rd_T57 x251001_46 x16_6).f1))) (fun _ hk=>hk.2) (.int .i64 ((rd_T57 x251001_46 x16_6).f2))) (fun _ hk=>hk.2) (.bool ((rd_T57 x251001_46 x16_6).f3))) (fun _ hk=>hk.1)⟩,⟨by (with_reducible repeat (first|apply rA|apply rN|apply rD));exact rM (rF (p:=⟨Ba,3,none⟩) (rF (p:=⟨Ba,2,none⟩) (rF (p:=⟨Ba,1,none⟩) (rF (p:=⟨Ba,0,none⟩) (rM Bg.out (fun k_ hk=>(⟨hk,hk.2⟩:_∧k_≠Ba))) (fun _ hk=>hk.2) (.int .i64 ((rd_T57 x251001_46 x16_6).f0))) (fun _ hk=>hk.2) (.int .i64 ((rd_T57 x251001_46 x16_6).f1))) (fun _ hk=>hk.2) (.int .i64 ((rd_T57 x251001_46 x16_6).f2))) (fun _ hk=>hk.2) (.bool ((rd_T57 x251001_46 x16_6).f3))) (fun _ hk=>⟨hk.1.1.1,hk.1.1.2⟩)⟩,⟨by (with_reducible repeat (first|apply Kd.Q_alloc|apply Kd.Q_drewN|apply Kd.Q_drew));exact qM (Kd.Q_far (p:=⟨Ba,3,none⟩) (Kd.Q_far (p:=⟨Ba,2,none⟩) (Kd.Q_far (p:=⟨Ba,1,none⟩) (Kd.Q_far (p:=⟨Ba,0,none⟩) (Kd.Q_types Bh.out Be.out (by decide)) (fun _ hk=>hk.2) (.int .i64 ((rd_T57 x251001_46 x16_6).f0))) (fun _ hk=>hk.2) (.int .i64 ((rd_T57 x251001_46 x16_6).f1))) (fun _ hk=>hk.2) (.int .i64 ((rd_T57 x251001_46 x16_6).f2))) (fun _ hk=>hk.2) (.bool ((rd_T57 x251001_46 x16_6).f3))) (fun _ hk=>⟨hk.1.1,hk.1.2⟩)⟩,⟨by (with_reducible repeat (first|apply rA|apply rN|apply rD));exact rM (rF (p:=⟨Ba,3,none⟩) (rF (p:=⟨Ba,2,none⟩) (rF (p:=⟨Ba,1,none⟩) (rF (p:=⟨Ba,0,none⟩) (rM Bm.out (fun k_ hk=>(⟨hk,hk.2⟩:_∧k_≠Ba))) (fun _ hk=>hk.2) (.int .i64 ((rd_T57 x251001_46 x16_6).f0))) (fun _ hk=>hk.2) (.int .i64 ((rd_T57 x251001_46 x16_6).f1))) (fun _ hk=>hk.2) (.int .i64 ((rd_T57 x251001_46 x16_6).f2))) (fun _ hk=>hk.2) (.bool ((rd_T57 x251001_46 x16_6).f3))) (fun _ hk=>hk.1.1)⟩,⟨by (with_reducible repeat (first|apply Kd.Q_alloc|apply Kd.Q_drewN|apply Kd.Q_drew));exact qM (Kd.Q_far (p:=⟨Ba,3,none⟩) (Kd.Q_far (p:=⟨Ba,2,none⟩) (Kd.Q_far (p:=⟨Ba,1,none⟩) (Kd.Q_far (p:=⟨Ba,0,none⟩) (Kd.Q_types Bn.out Be.out (by decide)) (fun _ hk=>hk.2) (.int .i64 ((rd_T57 x251001_46 x16_6).f0))) (fun _ hk=>hk.2) (.int .i64 ((rd_T57 x251001_46 x16_6).f1))) (fun _ hk=>hk.2) (.int .i64 ((rd_T57 x251001_46 x16_6).f2))) (fun _ hk=>hk.2) (.bool ((rd_T57 x251001_46 x16_6).f3))) (fun _ hk=>hk.1)⟩,⟨by (with_reducible repeat (first|refine bN ?_ _|refine bD ?_|refine bA ?_ _|refine bE ?_ Bp.out _));exact Bb.out⟩,⟨by (with_reducible repeat (first|refine bN ?_ _|refine bD ?_|refine bA ?_ _|refine bE ?_ Bq.out _));exact Bi.out⟩,⟨by (with_reducible repeat (first|refine bN ?_ _|refine bD ?_|refine bA ?_ _|refine bE ?_ Br.out _));exact Bl.out⟩,⟨by repeat (first|(with_reducible first|exact HB.out|apply oA|apply pN|apply o1|refine bS ?_ Bo.out|refine bS ?_ Bs.out|refine bS ?_ Bt.out|refine bS ?_ BB.out)|exact HB.out)⟩⟩
               rw [if_neg c159] at H
               have c159b0:(((rd_T57 x251001_46 x16_6).f0) == 5)=false:=beq_eq_false_iff_ne.mpr c159
               have c159b1:(((rd_T57 x251001_46 x16_6).f0) != 5)=true:=bne_iff_ne.mpr c159
               by_cases c169:((rd_T57 x251001_46 x16_6).f0)=6
               ·as_aux_lemma=>
                 rw [if_pos c169] at H
                 have c169b0:(((rd_T57 x251001_46 x16_6).f0) == 6)=true:=beq_iff_eq.mpr c169
                 have c169b1:(((rd_T57 x251001_46 x16_6).f0) != 6)=false:=bne_eq_false_iff_eq.mpr c169
                 clear c169
                 have H':=Am H
                 clear H
                 have VF:=Bz.out
                 have VG:=BA.out
                 have VH:=Bx.out
                 have VI:=By.out
                 have Gp:=cz0 Bb.out
                 have Gq:=cz1 Bb.out
                 have Gr:=cz2 Bb.out
                 have Gs:=bF Bb.out 0
                 have Gt:=bF Bb.out 1
                 have Gu:=bF Bb.out 2
                 obtain ⟨Ao173,co173,eo173⟩:=rC Bc.out
                 subst eo173
                 have p272:0≤(x16_6:Int):=oE (by first|(with_reducible assumption)|assumption)
                 have q272:x16_6<(x251001_46.length:Int):=oE (by first|(with_reducible assumption)|assumption)
                 obtain ⟨ad272,e272,hx272_0,hx272_1,hx272_2,hx272_3⟩:=at_T57 (rR Bc.out).2.2 x16_6 p272 q272
                 cases e272
                 replace p272:=eq_true p272
                 replace q272:=eq_true q272
                 go_wp2_with (first|((with_reducible refine gD (N:=17) rfl ?_);(try (refine gate_guard (by rfl) ?_;dsimp only));refine bI ?hg (N:=17) ?hd (cs:=#[.int .i64 0,.int .i64 0,.int .i64 0,.bool false]) (t:=57) ?hr ?_;(case hd=>rfl);(case hg=>rfl);(case hr=>first|(go_simp;done)|(go_simp;rfl));intro Ba hg w174 hbox hb;have n0_:=Am (rB (Kd.R_elderB (rL Bc.out) Ba (Nat.le_of_eq hg.symm)) hb);have n1_:=Am (Kd.Q_below (qL Bf.out) hb);have n2_:=Am (rB (Kd.R_elderB (rL Bg.out) Ba (Nat.le_of_eq hg.symm)) hb);have n3_:=Am (Kd.Q_below (qL Bh.out) hb);have n4_:=Am (rB (Kd.R_elderB (rL Bm.out) Ba (Nat.le_of_eq hg.symm)) hb);have n5_:=Am (Kd.Q_below (qL Bn.out) hb);have n6_:=Am (bX Bb.out hb);have n7_:=Am (bX Bi.out hb);have n8_:=Am (bX Bl.out hb);have n9_:=Am (bP (by repeat (first|(with_reducible first|exact HB.out|apply oA|apply pN|apply o1|refine bS ?_ Bo.out|refine bS ?_ Bs.out|refine bS ?_ Bt.out)|exact HB.out)) hb);have n10_:=Am (hbox);have n11_:=Am ((by rw [hg];exact (bZ (by repeat (first|(with_reducible first|exact HB.out|apply oA|apply pN|apply o1|refine bS ?_ Bo.out|refine bS ?_ Bs.out|refine bS ?_ Bt.out)|exact HB.out))):w.heap.size≤Ba));have n12_:=Am ((by rw [hg];exact (bZ (by repeat (first|(with_reducible first|exact HB.out|apply oA|apply pN|apply o1|refine bS ?_ Bo.out|refine bS ?_ Bs.out|refine bS ?_ Bt.out)|exact HB.out))):w.heap.size≤Ba));have n13_:=Am ((nL Bb.out hg));have n14_:=Am ((nG Bb.out hg));have n15_:=Am ((nL Bi.out hg));have n16_:=Am ((nG Bi.out hg));have n17_:=Am ((nL Bl.out hg));have n18_:=Am ((nG Bl.out hg));clear Bc Bf Bg Bh Bm Bn Bb Bi Bl HB;revert n0_ n1_ n2_ n3_ n4_ n5_ n6_ n7_ n8_ n9_ n10_ n11_ n12_ n13_ n14_ n15_ n16_ n17_ n18_;intro Bc Bf Bg Bh Bm Bn Bb Bi Bl HB Be BI BB Bp Bu Bq Bv Br Bw;clear hb hbox hg;have VJ:=Bu.out;have VK:=Bp.out;have VL:=Bv.out;have VM:=Bq.out;have VN:=Bw.out;have VO:=Br.out;have Gv:=cz0 Be.out;have Gw:=cz1 Be.out;have Gx:=cz2 Be.out;have Gy:=cz3 Be.out;have Gz:=bF Be.out 0;have GA:=bF Be.out 1;have GB:=bF Be.out 2;have GC:=bF Be.out 3))
                 go_roundg k6
                 case measure=>have:=BE.out;have:=BF.out;have:=HK3.out;have:=BC.out;have:=BD.out;have:=HK6.out;omega
                 case rel=>exact ⟨(true),(true),(wrap64 (x16_6 + 1)),(by first|rfl|(simp;done)|(simp [*];done)),(by first|rfl|(simp;done)|(simp [*];done)),(by first|rfl|(simp;done)|(simp [*];done)),H',⟨by have:=BE.out;have:=BF.out;have:=HK3.out;have:=BC.out;have:=BD.out;have:=HK6.out;omega⟩,⟨by (with_reducible repeat (first|apply rA|apply rN|apply rD));exact rM (rF (p:=⟨Ba,3,none⟩) (rF (p:=⟨Ba,2,none⟩) (rF (p:=⟨Ba,1,none⟩) (rF (p:=⟨Ba,0,none⟩) (rM Bc.out (fun k_ hk=>(⟨hk,hk.2⟩:_∧k_≠Ba))) (fun _ hk=>hk.2) (.int .i64 ((rd_T57 x251001_46 x16_6).f0))) (fun _ hk=>hk.2) (.int .i64 ((rd_T57 x251001_46 x16_6).f1))) (fun _ hk=>hk.2) (.int .i64 ((rd_T57 x251001_46 x16_6).f2))) (fun _ hk=>hk.2) (.bool ((rd_T57 x251001_46 x16_6).f3))) (fun _ hk=>hk.1.1)⟩,⟨by (with_reducible repeat (first|apply Kd.Q_alloc|apply Kd.Q_drewN|apply Kd.Q_drew));exact qM (Kd.Q_far (p:=⟨Ba,3,none⟩) (Kd.Q_far (p:=⟨Ba,2,none⟩) (Kd.Q_far (p:=⟨Ba,1,none⟩) (Kd.Q_far (p:=⟨Ba,0,none⟩) (Kd.Q_types Bf.out Be.out (by decide)) (fun _ hk=>hk.2) (.int .i64 ((rd_T57 x251001_46 x16_6).f0))) (fun _ hk=>hk.2) (.int .i64 ((rd_T57 x251001_46 x16_6).f1))) (fun _ hk=>hk.2) (.int .i64 ((rd_T57 x251001_46 x16_6).f2))) (fun _ hk=>hk.2) (.bool ((rd_T57 x251001_46 x16_6).f3))) (fun _ hk=>hk.1)⟩,⟨by (with_reducible repeat (first|apply rA|apply rN|apply rD));exact rM (rF (p:=⟨Ba,3,none⟩) (rF (p:=⟨Ba,2,none⟩) (rF (p:=⟨Ba,1,none⟩) (rF (p:=⟨Ba,0,none⟩) (rM Bg.out (fun k_ hk=>(⟨hk,hk.2⟩:_∧k_≠Ba))) (fun _ hk=>hk.2) (.int .i64 ((rd_T57 x251001_46 x16_6).f0))) (fun _ hk=>hk.2) (.int .i64 ((rd_T57 x251001_46 x16_6).f1))) (fun _ hk=>hk.2) (.int .i64 ((rd_T57 x251001_46 x16_6).f2))) (fun _ hk=>hk.2) (.bool ((rd_T57 x251001_46 x16_6).f3))) (fun _ hk=>⟨hk.1.1.1,hk.1.1.2⟩)⟩,⟨by (with_reducible repeat (first|apply Kd.Q_alloc|apply Kd.Q_drewN|apply Kd.Q_drew));exact qM (Kd.Q_far (p:=⟨Ba,3,none⟩) (Kd.Q_far (p:=⟨Ba,2,none⟩) (Kd.Q_far (p:=⟨Ba,1,none⟩) (Kd.Q_far (p:=⟨Ba,0,none⟩) (Kd.Q_types Bh.out Be.out (by decide)) (fun _ hk=>hk.2) (.int .i64 ((rd_T57 x251001_46 x16_6).f0))) (fun _ hk=>hk.2) (.int .i64 ((rd_T57 x251001_46 x16_6).f1))) (fun _ hk=>hk.2) (.int .i64 ((rd_T57 x251001_46 x16_6).f2))) (fun _ hk=>hk.2) (.bool ((rd_T57 x251001_46 x16_6).f3))) (fun _ hk=>⟨hk.1.1,hk.1.2⟩)⟩,⟨by (with_reducible repeat (first|apply rA|apply rN|apply rD));exact rM (rF (p:=⟨Ba,3,none⟩) (rF (p:=⟨Ba,2,none⟩) (rF (p:=⟨Ba,1,none⟩) (rF (p:=⟨Ba,0,none⟩) (rM Bm.out (fun k_ hk=>(⟨hk,hk.2⟩:_∧k_≠Ba))) (fun _ hk=>hk.2) (.int .i64 ((rd_T57 x251001_46 x16_6).f0))) (fun _ hk=>hk.2) (.int .i64 ((rd_T57 x251001_46 x16_6).f1))) (fun _ hk=>hk.2) (.int .i64 ((rd_T57 x251001_46 x16_6).f2))) (fun _ hk=>hk.2) (.bool ((rd_T57 x251001_46 x16_6).f3))) (fun _ hk=>hk.1.1)⟩,⟨by (with_reducible repeat (first|apply Kd.Q_alloc|apply Kd.Q_drewN|apply Kd.Q_drew));exact qM (Kd.Q_far (p:=⟨Ba,3,none⟩) (Kd.Q_far (p:=⟨Ba,2,none⟩) (Kd.Q_far (p:=⟨Ba,1,none⟩) (Kd.Q_far (p:=⟨Ba,0,none⟩) (Kd.Q_types Bn.out Be.out (by decide)) (fun _ hk=>hk.2) (.int .i64 ((rd_T57 x251001_46 x16_6).f0))) (fun _ hk=>hk.2) (.int .i64 ((rd_T57 x251001_46 x16_6).f1))) (fun _ hk=>hk.2) (.int .i64 ((rd_T57 x251001_46 x16_6).f2))) (fun _ hk=>hk.2) (.bool ((rd_T57 x251001_46 x16_6).f3))) (fun _ hk=>hk.1)⟩,⟨by (with_reducible repeat (first|refine bN ?_ _|refine bD ?_|refine bA ?_ _|refine bE ?_ Bp.out _));exact Bb.out⟩,⟨by (with_reducible repeat (first|refine bN ?_ _|refine bD ?_|refine bA ?_ _|refine bE ?_ Bq.out _));exact Bi.out⟩,⟨by (with_reducible repeat (first|refine bN ?_ _|refine bD ?_|refine bA ?_ _|refine bE ?_ Br.out _));exact Bl.out⟩,⟨by repeat (first|(with_reducible first|exact HB.out|apply oA|apply pN|apply o1|refine bS ?_ Bo.out|refine bS ?_ Bs.out|refine bS ?_ Bt.out|refine bS ?_ BB.out)|exact HB.out)⟩⟩
               rw [if_neg c169] at H
               have c169b0:(((rd_T57 x251001_46 x16_6).f0) == 6)=false:=beq_eq_false_iff_ne.mpr c169
               have c169b1:(((rd_T57 x251001_46 x16_6).f0) != 6)=true:=bne_iff_ne.mpr c169
               by_cases c179:((rd_T57 x251001_46 x16_6).f0)=3
               rotate_left
               ·as_aux_lemma=>
                 rw [if_neg c179] at H
                 have c179b0:(((rd_T57 x251001_46 x16_6).f0) == 3)=false:=beq_eq_false_iff_ne.mpr c179
                 have c179b1:(((rd_T57 x251001_46 x16_6).f0) != 3)=true:=bne_iff_ne.mpr c179
                 by_cases c210:((rd_T57 x251001_46 x16_6).f0)=1
                 ·as_aux_lemma=>
                   rw [if_pos c210] at H
                   have c210b0:(((rd_T57 x251001_46 x16_6).f0) == 1)=true:=beq_iff_eq.mpr c210
                   have c210b1:(((rd_T57 x251001_46 x16_6).f0) != 1)=false:=bne_eq_false_iff_eq.mpr c210
                   clear c210
                   have H':=Am H
                   clear H
                   have Xj:=Bz.out
                   have Xk:=BA.out
                   have Xl:=Bx.out
                   have Xm:=By.out
                   have Jj:=cz0 Bb.out
                   have Jk:=cz1 Bb.out
                   have Jl:=cz2 Bb.out
                   have Jm:=bF Bb.out 0
                   have Jn:=bF Bb.out 1
                   have Jo:=bF Bb.out 2
                   obtain ⟨Ao214,co214,eo214⟩:=rC Bc.out
                   subst eo214
                   have p272:0≤(x16_6:Int):=oE (by first|(with_reducible assumption)|assumption)
                   have q272:x16_6<(x251001_46.length:Int):=oE (by first|(with_reducible assumption)|assumption)
                   obtain ⟨ad272,e272,hx272_0,hx272_1,hx272_2,hx272_3⟩:=at_T57 (rR Bc.out).2.2 x16_6 p272 q272
                   cases e272
                   replace p272:=eq_true p272
                   replace q272:=eq_true q272
                   go_wp2_with (first|((with_reducible refine gD (N:=17) rfl ?_);(try (refine gate_guard (by rfl) ?_;dsimp only));refine bI ?hg (N:=17) ?hd (cs:=#[.int .i64 0,.int .i64 0,.int .i64 0,.bool false]) (t:=57) ?hr ?_;(case hd=>rfl);(case hg=>rfl);(case hr=>first|(go_simp;done)|(go_simp;rfl));intro Ba hg w215 hbox hb;have n0_:=Am (rB (Kd.R_elderB (rL Bc.out) Ba (Nat.le_of_eq hg.symm)) hb);have n1_:=Am (Kd.Q_below (qL Bf.out) hb);have n2_:=Am (rB (Kd.R_elderB (rL Bg.out) Ba (Nat.le_of_eq hg.symm)) hb);have n3_:=Am (Kd.Q_below (qL Bh.out) hb);have n4_:=Am (rB (Kd.R_elderB (rL Bm.out) Ba (Nat.le_of_eq hg.symm)) hb);have n5_:=Am (Kd.Q_below (qL Bn.out) hb);have n6_:=Am (bX Bb.out hb);have n7_:=Am (bX Bi.out hb);have n8_:=Am (bX Bl.out hb);have n9_:=Am (bP (by repeat (first|(with_reducible first|exact HB.out|apply oA|apply pN|apply o1|refine bS ?_ Bo.out|refine bS ?_ Bs.out|refine bS ?_ Bt.out)|exact HB.out)) hb);have n10_:=Am (hbox);have n11_:=Am ((by rw [hg];exact (bZ (by repeat (first|(with_reducible first|exact HB.out|apply oA|apply pN|apply o1|refine bS ?_ Bo.out|refine bS ?_ Bs.out|refine bS ?_ Bt.out)|exact HB.out))):w.heap.size≤Ba));have n12_:=Am ((by rw [hg];exact (bZ (by repeat (first|(with_reducible first|exact HB.out|apply oA|apply pN|apply o1|refine bS ?_ Bo.out|refine bS ?_ Bs.out|refine bS ?_ Bt.out)|exact HB.out))):w.heap.size≤Ba));have n13_:=Am ((nL Bb.out hg));have n14_:=Am ((nG Bb.out hg));have n15_:=Am ((nL Bi.out hg));have n16_:=Am ((nG Bi.out hg));have n17_:=Am ((nL Bl.out hg));have n18_:=Am ((nG Bl.out hg));clear Bc Bf Bg Bh Bm Bn Bb Bi Bl HB;revert n0_ n1_ n2_ n3_ n4_ n5_ n6_ n7_ n8_ n9_ n10_ n11_ n12_ n13_ n14_ n15_ n16_ n17_ n18_;intro Bc Bf Bg Bh Bm Bn Bb Bi Bl HB Be BI BB Bp Bu Bq Bv Br Bw;clear hb hbox hg;have Xn:=Bu.out;have Xo:=Bp.out;have Xp:=Bv.out;have Xq:=Bq.out;have Xr:=Bw.out;have Xs:=Br.out;have Jp:=cz0 Be.out;have Jq:=cz1 Be.out;have Jr:=cz2 Be.out;have Js:=cz3 Be.out;have Jt:=bF Be.out 0;have Ju:=bF Be.out 1;have Jv:=bF Be.out 2;have Jw:=bF Be.out 3))
                   go_roundg k6
                   case measure=>have:=BE.out;have:=BF.out;have:=HK3.out;have:=BC.out;have:=BD.out;have:=HK6.out;omega
                   case rel=>exact ⟨(true),(true),(wrap64 (x16_6 + 1)),(by first|rfl|(simp;done)|(simp [*];done)),(by first|rfl|(simp;done)|(simp [*];done)),(by first|rfl|(simp;done)|(simp [*];done)),H',⟨by have:=BE.out;have:=BF.out;have:=HK3.out;have:=BC.out;have:=BD.out;have:=HK6.out;omega⟩,⟨by (with_reducible repeat (first|apply rA|apply rN|apply rD));exact rM (rF (p:=⟨Ba,3,none⟩) (rF (p:=⟨Ba,2,none⟩) (rF (p:=⟨Ba,1,none⟩) (rF (p:=⟨Ba,0,none⟩) (rM Bc.out (fun k_ hk=>(⟨hk,hk.2⟩:_∧k_≠Ba))) (fun _ hk=>hk.2) (.int .i64 ((rd_T57 x251001_46 x16_6).f0))) (fun _ hk=>hk.2) (.int .i64 ((rd_T57 x251001_46 x16_6).f1))) (fun _ hk=>hk.2) (.int .i64 ((rd_T57 x251001_46 x16_6).f2))) (fun _ hk=>hk.2) (.bool ((rd_T57 x251001_46 x16_6).f3))) (fun _ hk=>hk.1.1)⟩,⟨by (with_reducible repeat (first|apply Kd.Q_alloc|apply Kd.Q_drewN|apply Kd.Q_drew));exact qM (Kd.Q_far (p:=⟨Ba,3,none⟩) (Kd.Q_far (p:=⟨Ba,2,none⟩) (Kd.Q_far (p:=⟨Ba,1,none⟩) (Kd.Q_far (p:=⟨Ba,0,none⟩) (Kd.Q_types Bf.out Be.out (by decide)) (fun _ hk=>hk.2) (.int .i64 ((rd_T57 x251001_46 x16_6).f0))) (fun _ hk=>hk.2) (.int .i64 ((rd_T57 x251001_46 x16_6).f1))) (fun _ hk=>hk.2) (.int .i64 ((rd_T57 x251001_46 x16_6).f2))) (fun _ hk=>hk.2) (.bool ((rd_T57 x251001_46 x16_6).f3))) (fun _ hk=>hk.1)⟩,⟨by (with_reducible repeat (first|apply rA|apply rN|apply rD));exact rM (rF (p:=⟨Ba,3,none⟩) (rF (p:=⟨Ba,2,none⟩) (rF (p:=⟨Ba,1,none⟩) (rF (p:=⟨Ba,0,none⟩) (rM Bg.out (fun k_ hk=>(⟨hk,hk.2⟩:_∧k_≠Ba))) (fun _ hk=>hk.2) (.int .i64 ((rd_T57 x251001_46 x16_6).f0))) (fun _ hk=>hk.2) (.int .i64 ((rd_T57 x251001_46 x16_6).f1))) (fun _ hk=>hk.2) (.int .i64 ((rd_T57 x251001_46 x16_6).f2))) (fun _ hk=>hk.2) (.bool ((rd_T57 x251001_46 x16_6).f3))) (fun _ hk=>⟨hk.1.1.1,hk.1.1.2⟩)⟩,⟨by (with_reducible repeat (first|apply Kd.Q_alloc|apply Kd.Q_drewN|apply Kd.Q_drew));exact qM (Kd.Q_far (p:=⟨Ba,3,none⟩) (Kd.Q_far (p:=⟨Ba,2,none⟩) (Kd.Q_far (p:=⟨Ba,1,none⟩) (Kd.Q_far (p:=⟨Ba,0,none⟩) (Kd.Q_types Bh.out Be.out (by decide)) (fun _ hk=>hk.2) (.int .i64 ((rd_T57 x251001_46 x16_6).f0))) (fun _ hk=>hk.2) (.int .i64 ((rd_T57 x251001_46 x16_6).f1))) (fun _ hk=>hk.2) (.int .i64 ((rd_T57 x251001_46 x16_6).f2))) (fun _ hk=>hk.2) (.bool ((rd_T57 x251001_46 x16_6).f3))) (fun _ hk=>⟨hk.1.1,hk.1.2⟩)⟩,⟨by (with_reducible repeat (first|apply rA|apply rN|apply rD));exact rM (rF (p:=⟨Ba,3,none⟩) (rF (p:=⟨Ba,2,none⟩) (rF (p:=⟨Ba,1,none⟩) (rF (p:=⟨Ba,0,none⟩) (rM Bm.out (fun k_ hk=>(⟨hk,hk.2⟩:_∧k_≠Ba))) (fun _ hk=>hk.2) (.int .i64 ((rd_T57 x251001_46 x16_6).f0))) (fun _ hk=>hk.2) (.int .i64 ((rd_T57 x251001_46 x16_6).f1))) (fun _ hk=>hk.2) (.int .i64 ((rd_T57 x251001_46 x16_6).f2))) (fun _ hk=>hk.2) (.bool ((rd_T57 x251001_46 x16_6).f3))) (fun _ hk=>hk.1.1)⟩,⟨by (with_reducible repeat (first|apply Kd.Q_alloc|apply Kd.Q_drewN|apply Kd.Q_drew));exact qM (Kd.Q_far (p:=⟨Ba,3,none⟩) (Kd.Q_far (p:=⟨Ba,2,none⟩) (Kd.Q_far (p:=⟨Ba,1,none⟩) (Kd.Q_far (p:=⟨Ba,0,none⟩) (Kd.Q_types Bn.out Be.out (by decide)) (fun _ hk=>hk.2) (.int .i64 ((rd_T57 x251001_46 x16_6).f0))) (fun _ hk=>hk.2) (.int .i64 ((rd_T57 x251001_46 x16_6).f1))) (fun _ hk=>hk.2) (.int .i64 ((rd_T57 x251001_46 x16_6).f2))) (fun _ hk=>hk.2) (.bool ((rd_T57 x251001_46 x16_6).f3))) (fun _ hk=>hk.1)⟩,⟨by (with_reducible repeat (first|refine bN ?_ _|refine bD ?_|refine bA ?_ _|refine bE ?_ Bp.out _));exact Bb.out⟩,⟨by (with_reducible repeat (first|refine bN ?_ _|refine bD ?_|refine bA ?_ _|refine bE ?_ Bq.out _));exact Bi.out⟩,⟨by (with_reducible repeat (first|refine bN ?_ _|refine bD ?_|refine bA ?_ _|refine bE ?_ Br.out _));exact Bl.out⟩,⟨by repeat (first|(with_reducible first|exact HB.out|apply oA|apply pN|apply o1|refine bS ?_ Bo.out|refine bS ?_ Bs.out|refine bS ?_ Bt.out|refine bS ?_ BB.out)|exact HB.out)⟩⟩
                 rw [if_neg c210] at H
                 have c210b0:(((rd_T57 x251001_46 x16_6).f0) == 1)=false:=beq_eq_false_iff_ne.mpr c210
                 have c210b1:(((rd_T57 x251001_46 x16_6).f0) != 1)=true:=bne_iff_ne.mpr c210
                 have H':=Am H
                 clear H
                 have Xt:=Bz.out
                 have Xu:=BA.out
                 have Xv:=Bx.out
                 have Xw:=By.out
                 have Jx:=cz0 Bb.out
                 have Jy:=cz1 Bb.out
                 have Jz:=cz2 Bb.out
                 have JA:=bF Bb.out 0
                 have JB:=bF Bb.out 1
                 have JC:=bF Bb.out 2
                 obtain ⟨Ao223,co223,eo223⟩:=rC Bc.out
                 subst eo223
                 have p272:0≤(x16_6:Int):=oE (by first|(with_reducible assumption)|assumption)
                 have q272:x16_6<(x251001_46.length:Int):=oE (by first|(with_reducible assumption)|assumption)
                 obtain ⟨ad272,e272,hx272_0,hx272_1,hx272_2,hx272_3⟩:=at_T57 (rR Bc.out).2.2 x16_6 p272 q272
                 cases e272
                 replace p272:=eq_true p272
                 replace q272:=eq_true q272
                 go_wp2_with (first|((with_reducible refine gD (N:=17) rfl ?_);(try (refine gate_guard (by rfl) ?_;dsimp only));refine bI ?hg (N:=17) ?hd (cs:=#[.int .i64 0,.int .i64 0,.int .i64 0,.bool false]) (t:=57) ?hr ?_;(case hd=>rfl);(case hg=>rfl);(case hr=>first|(go_simp;done)|(go_simp;rfl));intro Ba hg w224 hbox hb;have n0_:=Am (rB (Kd.R_elderB (rL Bc.out) Ba (Nat.le_of_eq hg.symm)) hb);have n1_:=Am (Kd.Q_below (qL Bf.out) hb);have n2_:=Am (rB (Kd.R_elderB (rL Bg.out) Ba (Nat.le_of_eq hg.symm)) hb);have n3_:=Am (Kd.Q_below (qL Bh.out) hb);have n4_:=Am (rB (Kd.R_elderB (rL Bm.out) Ba (Nat.le_of_eq hg.symm)) hb);have n5_:=Am (Kd.Q_below (qL Bn.out) hb);have n6_:=Am (bX Bb.out hb);have n7_:=Am (bX Bi.out hb);have n8_:=Am (bX Bl.out hb);have n9_:=Am (bP (by repeat (first|(with_reducible first|exact HB.out|apply oA|apply pN|apply o1|refine bS ?_ Bo.out|refine bS ?_ Bs.out|refine bS ?_ Bt.out)|exact HB.out)) hb);have n10_:=Am (hbox);have n11_:=Am ((by rw [hg];exact (bZ (by repeat (first|(with_reducible first|exact HB.out|apply oA|apply pN|apply o1|refine bS ?_ Bo.out|refine bS ?_ Bs.out|refine bS ?_ Bt.out)|exact HB.out))):w.heap.size≤Ba));have n12_:=Am ((by rw [hg];exact (bZ (by repeat (first|(with_reducible first|exact HB.out|apply oA|apply pN|apply o1|refine bS ?_ Bo.out|refine bS ?_ Bs.out|refine bS ?_ Bt.out)|exact HB.out))):w.heap.size≤Ba));have n13_:=Am ((nL Bb.out hg));have n14_:=Am ((nG Bb.out hg));have n15_:=Am ((nL Bi.out hg));have n16_:=Am ((nG Bi.out hg));have n17_:=Am ((nL Bl.out hg));have n18_:=Am ((nG Bl.out hg));clear Bc Bf Bg Bh Bm Bn Bb Bi Bl HB;revert n0_ n1_ n2_ n3_ n4_ n5_ n6_ n7_ n8_ n9_ n10_ n11_ n12_ n13_ n14_ n15_ n16_ n17_ n18_;intro Bc Bf Bg Bh Bm Bn Bb Bi Bl HB Be BI BB Bp Bu Bq Bv Br Bw;clear hb hbox hg;have Xx:=Bu.out;have Xy:=Bp.out;have Xz:=Bv.out;have XA:=Bq.out;have XB:=Bw.out;have XC:=Br.out;have JD:=cz0 Be.out;have JE:=cz1 Be.out;have JF:=cz2 Be.out;have JG:=cz3 Be.out;have JH:=bF Be.out 0;have JI:=bF Be.out 1;have JJ:=bF Be.out 2;have JK:=bF Be.out 3))
                 go_roundg k6
                 case measure=>have:=BE.out;have:=BF.out;have:=HK3.out;have:=BC.out;have:=BD.out;have:=HK6.out;omega
                 case rel=>exact ⟨(true),((((rd_T57 x251001_46 x16_6).f0) == 2)),(wrap64 (x16_6 + 1)),(by first|rfl|(simp;done)|(simp [*];done)),(by first|rfl|(simp;done)|(simp [*];done)),(by first|rfl|(simp;done)|(simp [*];done)),H',⟨by have:=BE.out;have:=BF.out;have:=HK3.out;have:=BC.out;have:=BD.out;have:=HK6.out;omega⟩,⟨by (with_reducible repeat (first|apply rA|apply rN|apply rD));exact rM (rF (p:=⟨Ba,3,none⟩) (rF (p:=⟨Ba,2,none⟩) (rF (p:=⟨Ba,1,none⟩) (rF (p:=⟨Ba,0,none⟩) (rM Bc.out (fun k_ hk=>(⟨hk,hk.2⟩:_∧k_≠Ba))) (fun _ hk=>hk.2) (.int .i64 ((rd_T57 x251001_46 x16_6).f0))) (fun _ hk=>hk.2) (.int .i64 ((rd_T57 x251001_46 x16_6).f1))) (fun _ hk=>hk.2) (.int .i64 ((rd_T57 x251001_46 x16_6).f2))) (fun _ hk=>hk.2) (.bool ((rd_T57 x251001_46 x16_6).f3))) (fun _ hk=>hk.1.1)⟩,⟨by (with_reducible repeat (first|apply Kd.Q_alloc|apply Kd.Q_drewN|apply Kd.Q_drew));exact qM (Kd.Q_far (p:=⟨Ba,3,none⟩) (Kd.Q_far (p:=⟨Ba,2,none⟩) (Kd.Q_far (p:=⟨Ba,1,none⟩) (Kd.Q_far (p:=⟨Ba,0,none⟩) (Kd.Q_types Bf.out Be.out (by decide)) (fun _ hk=>hk.2) (.int .i64 ((rd_T57 x251001_46 x16_6).f0))) (fun _ hk=>hk.2) (.int .i64 ((rd_T57 x251001_46 x16_6).f1))) (fun _ hk=>hk.2) (.int .i64 ((rd_T57 x251001_46 x16_6).f2))) (fun _ hk=>hk.2) (.bool ((rd_T57 x251001_46 x16_6).f3))) (fun _ hk=>hk.1)⟩,⟨by (with_reducible repeat (first|apply rA|apply rN|apply rD));exact rM (rF (p:=⟨Ba,3,none⟩) (rF (p:=⟨Ba,2,none⟩) (rF (p:=⟨Ba,1,none⟩) (rF (p:=⟨Ba,0,none⟩) (rM Bg.out (fun k_ hk=>(⟨hk,hk.2⟩:_∧k_≠Ba))) (fun _ hk=>hk.2) (.int .i64 ((rd_T57 x251001_46 x16_6).f0))) (fun _ hk=>hk.2) (.int .i64 ((rd_T57 x251001_46 x16_6).f1))) (fun _ hk=>hk.2) (.int .i64 ((rd_T57 x251001_46 x16_6).f2))) (fun _ hk=>hk.2) (.bool ((rd_T57 x251001_46 x16_6).f3))) (fun _ hk=>⟨hk.1.1.1,hk.1.1.2⟩)⟩,⟨by (with_reducible repeat (first|apply Kd.Q_alloc|apply Kd.Q_drewN|apply Kd.Q_drew));exact qM (Kd.Q_far (p:=⟨Ba,3,none⟩) (Kd.Q_far (p:=⟨Ba,2,none⟩) (Kd.Q_far (p:=⟨Ba,1,none⟩) (Kd.Q_far (p:=⟨Ba,0,none⟩) (Kd.Q_types Bh.out Be.out (by decide)) (fun _ hk=>hk.2) (.int .i64 ((rd_T57 x251001_46 x16_6).f0))) (fun _ hk=>hk.2) (.int .i64 ((rd_T57 x251001_46 x16_6).f1))) (fun _ hk=>hk.2) (.int .i64 ((rd_T57 x251001_46 x16_6).f2))) (fun _ hk=>hk.2) (.bool ((rd_T57 x251001_46 x16_6).f3))) (fun _ hk=>⟨hk.1.1,hk.1.2⟩)⟩,⟨by (with_reducible repeat (first|apply rA|apply rN|apply rD));exact rM (rF (p:=⟨Ba,3,none⟩) (rF (p:=⟨Ba,2,none⟩) (rF (p:=⟨Ba,1,none⟩) (rF (p:=⟨Ba,0,none⟩) (rM Bm.out (fun k_ hk=>(⟨hk,hk.2⟩:_∧k_≠Ba))) (fun _ hk=>hk.2) (.int .i64 ((rd_T57 x251001_46 x16_6).f0))) (fun _ hk=>hk.2) (.int .i64 ((rd_T57 x251001_46 x16_6).f1))) (fun _ hk=>hk.2) (.int .i64 ((rd_T57 x251001_46 x16_6).f2))) (fun _ hk=>hk.2) (.bool ((rd_T57 x251001_46 x16_6).f3))) (fun _ hk=>hk.1.1)⟩,⟨by (with_reducible repeat (first|apply Kd.Q_alloc|apply Kd.Q_drewN|apply Kd.Q_drew));exact qM (Kd.Q_far (p:=⟨Ba,3,none⟩) (Kd.Q_far (p:=⟨Ba,2,none⟩) (Kd.Q_far (p:=⟨Ba,1,none⟩) (Kd.Q_far (p:=⟨Ba,0,none⟩) (Kd.Q_types Bn.out Be.out (by decide)) (fun _ hk=>hk.2) (.int .i64 ((rd_T57 x251001_46 x16_6).f0))) (fun _ hk=>hk.2) (.int .i64 ((rd_T57 x251001_46 x16_6).f1))) (fun _ hk=>hk.2) (.int .i64 ((rd_T57 x251001_46 x16_6).f2))) (fun _ hk=>hk.2) (.bool ((rd_T57 x251001_46 x16_6).f3))) (fun _ hk=>hk.1)⟩,⟨by (with_reducible repeat (first|refine bN ?_ _|refine bD ?_|refine bA ?_ _|refine bE ?_ Bp.out _));exact Bb.out⟩,⟨by (with_reducible repeat (first|refine bN ?_ _|refine bD ?_|refine bA ?_ _|refine bE ?_ Bq.out _));exact Bi.out⟩,⟨by (with_reducible repeat (first|refine bN ?_ _|refine bD ?_|refine bA ?_ _|refine bE ?_ Br.out _));exact Bl.out⟩,⟨by repeat (first|(with_reducible first|exact HB.out|apply oA|apply pN|apply o1|refine bS ?_ Bo.out|refine bS ?_ Bs.out|refine bS ?_ Bt.out|refine bS ?_ BB.out)|exact HB.out)⟩⟩
               rw [if_pos c179] at H
               have c179b0:(((rd_T57 x251001_46 x16_6).f0) == 3)=true:=beq_iff_eq.mpr c179
               have c179b1:(((rd_T57 x251001_46 x16_6).f0) != 3)=false:=bne_eq_false_iff_eq.mpr c179
               clear c179
               obtain ⟨bq180,hbq180⟩:∃ b_:Bool,b_=((rd_T57 x251001_46 x16_6).f3):=⟨_,rfl⟩
               replace H:(if (bq180=true) then (if ((rd_T57 x251001_46 x16_6).f0)=1 then (laws_FnLockWord.l1 k6 l1 t240 x11_3 true true (wrap64 (x16_6 + 1)) x251000_46 x251001_46 x251002_46) else (laws_FnLockWord.l1 k6 l1 t240 x11_3 true (((rd_T57 x251001_46 x16_6).f0) == 2) (wrap64 (x16_6 + 1)) x251000_46 x251001_46 x251002_46)) else (laws_FnLockWord.l1 k6 l1 t240 x11_3 true true (wrap64 (x16_6 + 1)) x251000_46 x251001_46 x251002_46))=some r:=by rw [← hbq180] at H;exact H
               have Nbq180:=Am hbq180
               clear hbq180
               by_cases c181:(bq180=true)
               rotate_left
               ·as_aux_lemma=>
                 replace c181:=Bool.eq_false_iff.mpr c181
                 subst c181
                 have H1:(laws_FnLockWord.l1 k6 l1 t240 x11_3 true true (wrap64 (x16_6 + 1)) x251000_46 x251001_46 x251002_46)=some r:=by rw [if_neg (show ¬ (false=true) by decide)] at H;exact H
                 clear H
                 have H:=H1
                 clear H1
                 have H':=Am H
                 clear H
                 have V9:=Bz.out
                 have Xa:=BA.out
                 have Xb:=Bx.out
                 have Xc:=By.out
                 have G5:=cz0 Bb.out
                 have G6:=cz1 Bb.out
                 have G7:=cz2 Bb.out
                 have G8:=bF Bb.out 0
                 have G9:=bF Bb.out 1
                 have Ja:=bF Bb.out 2
                 obtain ⟨Ao204,co204,eo204⟩:=rC Bc.out
                 subst eo204
                 have p272:0≤(x16_6:Int):=oE (by first|(with_reducible assumption)|assumption)
                 have q272:x16_6<(x251001_46.length:Int):=oE (by first|(with_reducible assumption)|assumption)
                 obtain ⟨ad272,e272,hx272_0,hx272_1,hx272_2,hx272_3⟩:=at_T57 (rR Bc.out).2.2 x16_6 p272 q272
                 (try rw [← Nbq180.out] at hx272_3)
                 cases e272
                 replace p272:=eq_true p272
                 replace q272:=eq_true q272
                 go_wp2_with (first|((with_reducible refine gD (N:=17) rfl ?_);(try (refine gate_guard (by rfl) ?_;dsimp only));refine bI ?hg (N:=17) ?hd (cs:=#[.int .i64 0,.int .i64 0,.int .i64 0,.bool false]) (t:=57) ?hr ?_;(case hd=>rfl);(case hg=>rfl);(case hr=>first|(go_simp;done)|(go_simp;rfl));intro Ba hg w205 hbox hb;have n0_:=Am (rB (Kd.R_elderB (rL Bc.out) Ba (Nat.le_of_eq hg.symm)) hb);have n1_:=Am (Kd.Q_below (qL Bf.out) hb);have n2_:=Am (rB (Kd.R_elderB (rL Bg.out) Ba (Nat.le_of_eq hg.symm)) hb);have n3_:=Am (Kd.Q_below (qL Bh.out) hb);have n4_:=Am (rB (Kd.R_elderB (rL Bm.out) Ba (Nat.le_of_eq hg.symm)) hb);have n5_:=Am (Kd.Q_below (qL Bn.out) hb);have n6_:=Am (bX Bb.out hb);have n7_:=Am (bX Bi.out hb);have n8_:=Am (bX Bl.out hb);have n9_:=Am (bP (by repeat (first|(with_reducible first|exact HB.out|apply oA|apply pN|apply o1|refine bS ?_ Bo.out|refine bS ?_ Bs.out|refine bS ?_ Bt.out)|exact HB.out)) hb);have n10_:=Am (hbox);have n11_:=Am ((by rw [hg];exact (bZ (by repeat (first|(with_reducible first|exact HB.out|apply oA|apply pN|apply o1|refine bS ?_ Bo.out|refine bS ?_ Bs.out|refine bS ?_ Bt.out)|exact HB.out))):w.heap.size≤Ba));have n12_:=Am ((by rw [hg];exact (bZ (by repeat (first|(with_reducible first|exact HB.out|apply oA|apply pN|apply o1|refine bS ?_ Bo.out|refine bS ?_ Bs.out|refine bS ?_ Bt.out)|exact HB.out))):w.heap.size≤Ba));have n13_:=Am ((nL Bb.out hg));have n14_:=Am ((nG Bb.out hg));have n15_:=Am ((nL Bi.out hg));have n16_:=Am ((nG Bi.out hg));have n17_:=Am ((nL Bl.out hg));have n18_:=Am ((nG Bl.out hg));clear Bc Bf Bg Bh Bm Bn Bb Bi Bl HB;revert n0_ n1_ n2_ n3_ n4_ n5_ n6_ n7_ n8_ n9_ n10_ n11_ n12_ n13_ n14_ n15_ n16_ n17_ n18_;intro Bc Bf Bg Bh Bm Bn Bb Bi Bl HB Be BI BB Bp Bu Bq Bv Br Bw;clear hb hbox hg;have Xd:=Bu.out;have Xe:=Bp.out;have Xf:=Bv.out;have Xg:=Bq.out;have Xh:=Bw.out;have Xi:=Br.out;have Jb:=cz0 Be.out;have Jc:=cz1 Be.out;have Jd:=cz2 Be.out;have Je:=cz3 Be.out;have Jf:=bF Be.out 0;have Jg:=bF Be.out 1;have Jh:=bF Be.out 2;have Ji:=bF Be.out 3))
                 go_roundg k6
                 case measure=>have:=BE.out;have:=BF.out;have:=HK3.out;have:=BC.out;have:=BD.out;have:=HK6.out;omega
                 case rel=>(try rw [← Nbq180.out]);exact ⟨(true),(true),(wrap64 (x16_6 + 1)),(by first|rfl|(simp;done)|(simp [*];done)),(by first|rfl|(simp;done)|(simp [*];done)),(by first|rfl|(simp;done)|(simp [*];done)),H',⟨by have:=BE.out;have:=BF.out;have:=HK3.out;have:=BC.out;have:=BD.out;have:=HK6.out;omega⟩,⟨by (with_reducible repeat (first|apply rA|apply rN|apply rD));exact rM (rF (p:=⟨Ba,3,none⟩) (rF (p:=⟨Ba,2,none⟩) (rF (p:=⟨Ba,1,none⟩) (rF (p:=⟨Ba,0,none⟩) (rM Bc.out (fun k_ hk=>(⟨hk,hk.2⟩:_∧k_≠Ba))) (fun _ hk=>hk.2) (.int .i64 ((rd_T57 x251001_46 x16_6).f0))) (fun _ hk=>hk.2) (.int .i64 ((rd_T57 x251001_46 x16_6).f1))) (fun _ hk=>hk.2) (.int .i64 ((rd_T57 x251001_46 x16_6).f2))) (fun _ hk=>hk.2) (.bool false)) (fun _ hk=>hk.1.1)⟩,⟨by (with_reducible repeat (first|apply Kd.Q_alloc|apply Kd.Q_drewN|apply Kd.Q_drew));exact qM (Kd.Q_far (p:=⟨Ba,3,none⟩) (Kd.Q_far (p:=⟨Ba,2,none⟩) (Kd.Q_far (p:=⟨Ba,1,none⟩) (Kd.Q_far (p:=⟨Ba,0,none⟩) (Kd.Q_types Bf.out Be.out (by decide)) (fun _ hk=>hk.2) (.int .i64 ((rd_T57 x251001_46 x16_6).f0))) (fun _ hk=>hk.2) (.int .i64 ((rd_T57 x251001_46 x16_6).f1))) (fun _ hk=>hk.2) (.int .i64 ((rd_T57 x251001_46 x16_6).f2))) (fun _ hk=>hk.2) (.bool false)) (fun _ hk=>hk.1)⟩,⟨by (with_reducible repeat (first|apply rA|apply rN|apply rD));exact rM (rF (p:=⟨Ba,3,none⟩) (rF (p:=⟨Ba,2,none⟩) (rF (p:=⟨Ba,1,none⟩) (rF (p:=⟨Ba,0,none⟩) (rM Bg.out (fun k_ hk=>(⟨hk,hk.2⟩:_∧k_≠Ba))) (fun _ hk=>hk.2) (.int .i64 ((rd_T57 x251001_46 x16_6).f0))) (fun _ hk=>hk.2) (.int .i64 ((rd_T57 x251001_46 x16_6).f1))) (fun _ hk=>hk.2) (.int .i64 ((rd_T57 x251001_46 x16_6).f2))) (fun _ hk=>hk.2) (.bool false)) (fun _ hk=>⟨hk.1.1.1,hk.1.1.2⟩)⟩,⟨by (with_reducible repeat (first|apply Kd.Q_alloc|apply Kd.Q_drewN|apply Kd.Q_drew));exact qM (Kd.Q_far (p:=⟨Ba,3,none⟩) (Kd.Q_far (p:=⟨Ba,2,none⟩) (Kd.Q_far (p:=⟨Ba,1,none⟩) (Kd.Q_far (p:=⟨Ba,0,none⟩) (Kd.Q_types Bh.out Be.out (by decide)) (fun _ hk=>hk.2) (.int .i64 ((rd_T57 x251001_46 x16_6).f0))) (fun _ hk=>hk.2) (.int .i64 ((rd_T57 x251001_46 x16_6).f1))) (fun _ hk=>hk.2) (.int .i64 ((rd_T57 x251001_46 x16_6).f2))) (fun _ hk=>hk.2) (.bool false)) (fun _ hk=>⟨hk.1.1,hk.1.2⟩)⟩,⟨by (with_reducible repeat (first|apply rA|apply rN|apply rD));exact rM (rF (p:=⟨Ba,3,none⟩) (rF (p:=⟨Ba,2,none⟩) (rF (p:=⟨Ba,1,none⟩) (rF (p:=⟨Ba,0,none⟩) (rM Bm.out (fun k_ hk=>(⟨hk,hk.2⟩:_∧k_≠Ba))) (fun _ hk=>hk.2) (.int .i64 ((rd_T57 x251001_46 x16_6).f0))) (fun _ hk=>hk.2) (.int .i64 ((rd_T57 x251001_46 x16_6).f1))) (fun _ hk=>hk.2) (.int .i64 ((rd_T57 x251001_46 x16_6).f2))) (fun _ hk=>hk.2) (.bool false)) (fun _ hk=>hk.1.1)⟩,⟨by (with_reducible repeat (first|apply Kd.Q_alloc|apply Kd.Q_drewN|apply Kd.Q_drew));exact qM (Kd.Q_far (p:=⟨Ba,3,none⟩) (Kd.Q_far (p:=⟨Ba,2,none⟩) (Kd.Q_far (p:=⟨Ba,1,none⟩) (Kd.Q_far (p:=⟨Ba,0,none⟩) (Kd.Q_types Bn.out Be.out (by decide)) (fun _ hk=>hk.2) (.int .i64 ((rd_T57 x251001_46 x16_6).f0))) (fun _ hk=>hk.2) (.int .i64 ((rd_T57 x251001_46 x16_6).f1))) (fun _ hk=>hk.2) (.int .i64 ((rd_T57 x251001_46 x16_6).f2))) (fun _ hk=>hk.2) (.bool false)) (fun _ hk=>hk.1)⟩,⟨by (with_reducible repeat (first|refine bN ?_ _|refine bD ?_|refine bA ?_ _|refine bE ?_ Bp.out _));exact Bb.out⟩,⟨by (with_reducible repeat (first|refine bN ?_ _|refine bD ?_|refine bA ?_ _|refine bE ?_ Bq.out _));exact Bi.out⟩,⟨by (with_reducible repeat (first|refine bN ?_ _|refine bD ?_|refine bA ?_ _|refine bE ?_ Br.out _));exact Bl.out⟩,⟨by repeat (first|(with_reducible first|exact HB.out|apply oA|apply pN|apply o1|refine bS ?_ Bo.out|refine bS ?_ Bs.out|refine bS ?_ Bt.out|refine bS ?_ BB.out)|exact HB.out)⟩⟩
               subst c181
               have H1:(if ((rd_T57 x251001_46 x16_6).f0)=1 then (laws_FnLockWord.l1 k6 l1 t240 x11_3 true true (wrap64 (x16_6 + 1)) x251000_46 x251001_46 x251002_46) else (laws_FnLockWord.l1 k6 l1 t240 x11_3 true (((rd_T57 x251001_46 x16_6).f0) == 2) (wrap64 (x16_6 + 1)) x251000_46 x251001_46 x251002_46))=some r:=by rw [if_pos rfl] at H;exact H
               clear H
               have H:=H1
               clear H1
               by_cases c182:((rd_T57 x251001_46 x16_6).f0)=1
               ·as_aux_lemma=>
                 rw [if_pos c182] at H
                 have c182b0:(((rd_T57 x251001_46 x16_6).f0) == 1)=true:=beq_iff_eq.mpr c182
                 have c182b1:(((rd_T57 x251001_46 x16_6).f0) != 1)=false:=bne_eq_false_iff_eq.mpr c182
                 clear c182
                 have H':=Am H
                 clear H
                 have VP:=Bz.out
                 have VQ:=BA.out
                 have VR:=Bx.out
                 have VS:=By.out
                 have GD:=cz0 Bb.out
                 have GE:=cz1 Bb.out
                 have GF:=cz2 Bb.out
                 have GG:=bF Bb.out 0
                 have GH:=bF Bb.out 1
                 have GI:=bF Bb.out 2
                 obtain ⟨Ao186,co186,eo186⟩:=rC Bc.out
                 subst eo186
                 have p272:0≤(x16_6:Int):=oE (by first|(with_reducible assumption)|assumption)
                 have q272:x16_6<(x251001_46.length:Int):=oE (by first|(with_reducible assumption)|assumption)
                 obtain ⟨ad272,e272,hx272_0,hx272_1,hx272_2,hx272_3⟩:=at_T57 (rR Bc.out).2.2 x16_6 p272 q272
                 (try rw [← Nbq180.out] at hx272_3)
                 cases e272
                 replace p272:=eq_true p272
                 replace q272:=eq_true q272
                 go_wp2_with (first|((with_reducible refine gD (N:=17) rfl ?_);(try (refine gate_guard (by rfl) ?_;dsimp only));refine bI ?hg (N:=17) ?hd (cs:=#[.int .i64 0,.int .i64 0,.int .i64 0,.bool false]) (t:=57) ?hr ?_;(case hd=>rfl);(case hg=>rfl);(case hr=>first|(go_simp;done)|(go_simp;rfl));intro Ba hg w187 hbox hb;have n0_:=Am (rB (Kd.R_elderB (rL Bc.out) Ba (Nat.le_of_eq hg.symm)) hb);have n1_:=Am (Kd.Q_below (qL Bf.out) hb);have n2_:=Am (rB (Kd.R_elderB (rL Bg.out) Ba (Nat.le_of_eq hg.symm)) hb);have n3_:=Am (Kd.Q_below (qL Bh.out) hb);have n4_:=Am (rB (Kd.R_elderB (rL Bm.out) Ba (Nat.le_of_eq hg.symm)) hb);have n5_:=Am (Kd.Q_below (qL Bn.out) hb);have n6_:=Am (bX Bb.out hb);have n7_:=Am (bX Bi.out hb);have n8_:=Am (bX Bl.out hb);have n9_:=Am (bP (by repeat (first|(with_reducible first|exact HB.out|apply oA|apply pN|apply o1|refine bS ?_ Bo.out|refine bS ?_ Bs.out|refine bS ?_ Bt.out)|exact HB.out)) hb);have n10_:=Am (hbox);have n11_:=Am ((by rw [hg];exact (bZ (by repeat (first|(with_reducible first|exact HB.out|apply oA|apply pN|apply o1|refine bS ?_ Bo.out|refine bS ?_ Bs.out|refine bS ?_ Bt.out)|exact HB.out))):w.heap.size≤Ba));have n12_:=Am ((by rw [hg];exact (bZ (by repeat (first|(with_reducible first|exact HB.out|apply oA|apply pN|apply o1|refine bS ?_ Bo.out|refine bS ?_ Bs.out|refine bS ?_ Bt.out)|exact HB.out))):w.heap.size≤Ba));have n13_:=Am ((nL Bb.out hg));have n14_:=Am ((nG Bb.out hg));have n15_:=Am ((nL Bi.out hg));have n16_:=Am ((nG Bi.out hg));have n17_:=Am ((nL Bl.out hg));have n18_:=Am ((nG Bl.out hg));clear Bc Bf Bg Bh Bm Bn Bb Bi Bl HB;revert n0_ n1_ n2_ n3_ n4_ n5_ n6_ n7_ n8_ n9_ n10_ n11_ n12_ n13_ n14_ n15_ n16_ n17_ n18_;intro Bc Bf Bg Bh Bm Bn Bb Bi Bl HB Be BI BB Bp Bu Bq Bv Br Bw;clear hb hbox hg;have VT:=Bu.out;have VU:=Bp.out;have VV:=Bv.out;have VW:=Bq.out;have VX:=Bw.out;have VY:=Br.out;have GJ:=cz0 Be.out;have GK:=cz1 Be.out;have GL:=cz2 Be.out;have GM:=cz3 Be.out;have GN:=bF Be.out 0;have GO:=bF Be.out 1;have GP:=bF Be.out 2;have GQ:=bF Be.out 3))
                 go_roundg k6
                 case measure=>have:=BE.out;have:=BF.out;have:=HK3.out;have:=BC.out;have:=BD.out;have:=HK6.out;omega
                 case rel=>(try rw [← Nbq180.out]);exact ⟨(true),(true),(wrap64 (x16_6 + 1)),(by first|rfl|(simp;done)|(simp [*];done)),(by first|rfl|(simp;done)|(simp [*];done)),(by first|rfl|(simp;done)|(simp [*];done)),H',⟨by have:=BE.out;have:=BF.out;have:=HK3.out;have:=BC.out;have:=BD.out;have:=HK6.out;omega⟩,⟨by (with_reducible repeat (first|apply rA|apply rN|apply rD));exact rM (rF (p:=⟨Ba,3,none⟩) (rF (p:=⟨Ba,2,none⟩) (rF (p:=⟨Ba,1,none⟩) (rF (p:=⟨Ba,0,none⟩) (rM Bc.out (fun k_ hk=>(⟨hk,hk.2⟩:_∧k_≠Ba))) (fun _ hk=>hk.2) (.int .i64 ((rd_T57 x251001_46 x16_6).f0))) (fun _ hk=>hk.2) (.int .i64 ((rd_T57 x251001_46 x16_6).f1))) (fun _ hk=>hk.2) (.int .i64 ((rd_T57 x251001_46 x16_6).f2))) (fun _ hk=>hk.2) (.bool true)) (fun _ hk=>hk.1.1)⟩,⟨by (with_reducible repeat (first|apply Kd.Q_alloc|apply Kd.Q_drewN|apply Kd.Q_drew));exact qM (Kd.Q_far (p:=⟨Ba,3,none⟩) (Kd.Q_far (p:=⟨Ba,2,none⟩) (Kd.Q_far (p:=⟨Ba,1,none⟩) (Kd.Q_far (p:=⟨Ba,0,none⟩) (Kd.Q_types Bf.out Be.out (by decide)) (fun _ hk=>hk.2) (.int .i64 ((rd_T57 x251001_46 x16_6).f0))) (fun _ hk=>hk.2) (.int .i64 ((rd_T57 x251001_46 x16_6).f1))) (fun _ hk=>hk.2) (.int .i64 ((rd_T57 x251001_46 x16_6).f2))) (fun _ hk=>hk.2) (.bool true)) (fun _ hk=>hk.1)⟩,⟨by (with_reducible repeat (first|apply rA|apply rN|apply rD));exact rM (rF (p:=⟨Ba,3,none⟩) (rF (p:=⟨Ba,2,none⟩) (rF (p:=⟨Ba,1,none⟩) (rF (p:=⟨Ba,0,none⟩) (rM Bg.out (fun k_ hk=>(⟨hk,hk.2⟩:_∧k_≠Ba))) (fun _ hk=>hk.2) (.int .i64 ((rd_T57 x251001_46 x16_6).f0))) (fun _ hk=>hk.2) (.int .i64 ((rd_T57 x251001_46 x16_6).f1))) (fun _ hk=>hk.2) (.int .i64 ((rd_T57 x251001_46 x16_6).f2))) (fun _ hk=>hk.2) (.bool true)) (fun _ hk=>⟨hk.1.1.1,hk.1.1.2⟩)⟩,⟨by (with_reducible repeat (first|apply Kd.Q_alloc|apply Kd.Q_drewN|apply Kd.Q_drew));exact qM (Kd.Q_far (p:=⟨Ba,3,none⟩) (Kd.Q_far (p:=⟨Ba,2,none⟩) (Kd.Q_far (p:=⟨Ba,1,none⟩) (Kd.Q_far (p:=⟨Ba,0,none⟩) (Kd.Q_types Bh.out Be.out (by decide)) (fun _ hk=>hk.2) (.int .i64 ((rd_T57 x251001_46 x16_6).f0))) (fun _ hk=>hk.2) (.int .i64 ((rd_T57 x251001_46 x16_6).f1))) (fun _ hk=>hk.2) (.int .i64 ((rd_T57 x251001_46 x16_6).f2))) (fun _ hk=>hk.2) (.bool true)) (fun _ hk=>⟨hk.1.1,hk.1.2⟩)⟩,⟨by (with_reducible repeat (first|apply rA|apply rN|apply rD));exact rM (rF (p:=⟨Ba,3,none⟩) (rF (p:=⟨Ba,2,none⟩) (rF (p:=⟨Ba,1,none⟩) (rF (p:=⟨Ba,0,none⟩) (rM Bm.out (fun k_ hk=>(⟨hk,hk.2⟩:_∧k_≠Ba))) (fun _ hk=>hk.2) (.int .i64 ((rd_T57 x251001_46 x16_6).f0))) (fun _ hk=>hk.2) (.int .i64 ((rd_T57 x251001_46 x16_6).f1))) (fun _ hk=>hk.2) (.int .i64 ((rd_T57 x251001_46 x16_6).f2))) (fun _ hk=>hk.2) (.bool true)) (fun _ hk=>hk.1.1)⟩,⟨by (with_reducible repeat (first|apply Kd.Q_alloc|apply Kd.Q_drewN|apply Kd.Q_drew));exact qM (Kd.Q_far (p:=⟨Ba,3,none⟩) (Kd.Q_far (p:=⟨Ba,2,none⟩) (Kd.Q_far (p:=⟨Ba,1,none⟩) (Kd.Q_far (p:=⟨Ba,0,none⟩) (Kd.Q_types Bn.out Be.out (by decide)) (fun _ hk=>hk.2) (.int .i64 ((rd_T57 x251001_46 x16_6).f0))) (fun _ hk=>hk.2) (.int .i64 ((rd_T57 x251001_46 x16_6).f1))) (fun _ hk=>hk.2) (.int .i64 ((rd_T57 x251001_46 x16_6).f2))) (fun _ hk=>hk.2) (.bool true)) (fun _ hk=>hk.1)⟩,⟨by (with_reducible repeat (first|refine bN ?_ _|refine bD ?_|refine bA ?_ _|refine bE ?_ Bp.out _));exact Bb.out⟩,⟨by (with_reducible repeat (first|refine bN ?_ _|refine bD ?_|refine bA ?_ _|refine bE ?_ Bq.out _));exact Bi.out⟩,⟨by (with_reducible repeat (first|refine bN ?_ _|refine bD ?_|refine bA ?_ _|refine bE ?_ Br.out _));exact Bl.out⟩,⟨by repeat (first|(with_reducible first|exact HB.out|apply oA|apply pN|apply o1|refine bS ?_ Bo.out|refine bS ?_ Bs.out|refine bS ?_ Bt.out|refine bS ?_ BB.out)|exact HB.out)⟩⟩
               rw [if_neg c182] at H
               have c182b0:(((rd_T57 x251001_46 x16_6).f0) == 1)=false:=beq_eq_false_iff_ne.mpr c182
               have c182b1:(((rd_T57 x251001_46 x16_6).f0) != 1)=true:=bne_iff_ne.mpr c182
               have H':=Am H
               clear H
               have VZ:=Bz.out
               have V0:=BA.out
               have V1:=Bx.out
               have V2:=By.out
               have GR:=cz0 Bb.out
               have GS:=cz1 Bb.out
               have GT:=cz2 Bb.out
               have GU:=bF Bb.out 0
               have GV:=bF Bb.out 1
               have GW:=bF Bb.out 2
               obtain ⟨Ao195,co195,eo195⟩:=rC Bc.out
               subst eo195
               have p272:0≤(x16_6:Int):=oE (by first|(with_reducible assumption)|assumption)
               have q272:x16_6<(x251001_46.length:Int):=oE (by first|(with_reducible assumption)|assumption)
               obtain ⟨ad272,e272,hx272_0,hx272_1,hx272_2,hx272_3⟩:=at_T57 (rR Bc.out).2.2 x16_6 p272 q272
               (try rw [← Nbq180.out] at hx272_3)
               cases e272
               replace p272:=eq_true p272
               replace q272:=eq_true q272
               go_wp2_with (first|((with_reducible refine gD (N:=17) rfl ?_);(try (refine gate_guard (by rfl) ?_;dsimp only));refine bI ?hg (N:=17) ?hd (cs:=#[.int .i64 0,.int .i64 0,.int .i64 0,.bool false]) (t:=57) ?hr ?_;(case hd=>rfl);(case hg=>rfl);(case hr=>first|(go_simp;done)|(go_simp;rfl));intro Ba hg w196 hbox hb;have n0_:=Am (rB (Kd.R_elderB (rL Bc.out) Ba (Nat.le_of_eq hg.symm)) hb);have n1_:=Am (Kd.Q_below (qL Bf.out) hb);have n2_:=Am (rB (Kd.R_elderB (rL Bg.out) Ba (Nat.le_of_eq hg.symm)) hb);have n3_:=Am (Kd.Q_below (qL Bh.out) hb);have n4_:=Am (rB (Kd.R_elderB (rL Bm.out) Ba (Nat.le_of_eq hg.symm)) hb);have n5_:=Am (Kd.Q_below (qL Bn.out) hb);have n6_:=Am (bX Bb.out hb);have n7_:=Am (bX Bi.out hb);have n8_:=Am (bX Bl.out hb);have n9_:=Am (bP (by repeat (first|(with_reducible first|exact HB.out|apply oA|apply pN|apply o1|refine bS ?_ Bo.out|refine bS ?_ Bs.out|refine bS ?_ Bt.out)|exact HB.out)) hb);have n10_:=Am (hbox);have n11_:=Am ((by rw [hg];exact (bZ (by repeat (first|(with_reducible first|exact HB.out|apply oA|apply pN|apply o1|refine bS ?_ Bo.out|refine bS ?_ Bs.out|refine bS ?_ Bt.out)|exact HB.out))):w.heap.size≤Ba));have n12_:=Am ((by rw [hg];exact (bZ (by repeat (first|(with_reducible first|exact HB.out|apply oA|apply pN|apply o1|refine bS ?_ Bo.out|refine bS ?_ Bs.out|refine bS ?_ Bt.out)|exact HB.out))):w.heap.size≤Ba));have n13_:=Am ((nL Bb.out hg));have n14_:=Am ((nG Bb.out hg));have n15_:=Am ((nL Bi.out hg));have n16_:=Am ((nG Bi.out hg));have n17_:=Am ((nL Bl.out hg));have n18_:=Am ((nG Bl.out hg));clear Bc Bf Bg Bh Bm Bn Bb Bi Bl HB;revert n0_ n1_ n2_ n3_ n4_ n5_ n6_ n7_ n8_ n9_ n10_ n11_ n12_ n13_ n14_ n15_ n16_ n17_ n18_;intro Bc Bf Bg Bh Bm Bn Bb Bi Bl HB Be BI BB Bp Bu Bq Bv Br Bw;clear hb hbox hg;have V3:=Bu.out;have V4:=Bp.out;have V5:=Bv.out;have V6:=Bq.out;have V7:=Bw.out;have V8:=Br.out;have GX:=cz0 Be.out;have GY:=cz1 Be.out;have GZ:=cz2 Be.out;have G0:=cz3 Be.out;have G1:=bF Be.out 0;have G2:=bF Be.out 1;have G3:=bF Be.out 2;have G4:=bF Be.out 3))
               go_roundg k6
               case measure=>have:=BE.out;have:=BF.out;have:=HK3.out;have:=BC.out;have:=BD.out;have:=HK6.out;omega
               case rel=>(try rw [← Nbq180.out]);exact ⟨(true),((((rd_T57 x251001_46 x16_6).f0) == 2)),(wrap64 (x16_6 + 1)),(by first|rfl|(simp;done)|(simp [*];done)),(by first|rfl|(simp;done)|(simp [*];done)),(by first|rfl|(simp;done)|(simp [*];done)),H',⟨by have:=BE.out;have:=BF.out;have:=HK3.out;have:=BC.out;have:=BD.out;have:=HK6.out;omega⟩,⟨by (with_reducible repeat (first|apply rA|apply rN|apply rD));exact rM (rF (p:=⟨Ba,3,none⟩) (rF (p:=⟨Ba,2,none⟩) (rF (p:=⟨Ba,1,none⟩) (rF (p:=⟨Ba,0,none⟩) (rM Bc.out (fun k_ hk=>(⟨hk,hk.2⟩:_∧k_≠Ba))) (fun _ hk=>hk.2) (.int .i64 ((rd_T57 x251001_46 x16_6).f0))) (fun _ hk=>hk.2) (.int .i64 ((rd_T57 x251001_46 x16_6).f1))) (fun _ hk=>hk.2) (.int .i64 ((rd_T57 x251001_46 x16_6).f2))) (fun _ hk=>hk.2) (.bool true)) (fun _ hk=>hk.1.1)⟩,⟨by (with_reducible repeat (first|apply Kd.Q_alloc|apply Kd.Q_drewN|apply Kd.Q_drew));exact qM (Kd.Q_far (p:=⟨Ba,3,none⟩) (Kd.Q_far (p:=⟨Ba,2,none⟩) (Kd.Q_far (p:=⟨Ba,1,none⟩) (Kd.Q_far (p:=⟨Ba,0,none⟩) (Kd.Q_types Bf.out Be.out (by decide)) (fun _ hk=>hk.2) (.int .i64 ((rd_T57 x251001_46 x16_6).f0))) (fun _ hk=>hk.2) (.int .i64 ((rd_T57 x251001_46 x16_6).f1))) (fun _ hk=>hk.2) (.int .i64 ((rd_T57 x251001_46 x16_6).f2))) (fun _ hk=>hk.2) (.bool true)) (fun _ hk=>hk.1)⟩,⟨by (with_reducible repeat (first|apply rA|apply rN|apply rD));exact rM (rF (p:=⟨Ba,3,none⟩) (rF (p:=⟨Ba,2,none⟩) (rF (p:=⟨Ba,1,none⟩) (rF (p:=⟨Ba,0,none⟩) (rM Bg.out (fun k_ hk=>(⟨hk,hk.2⟩:_∧k_≠Ba))) (fun _ hk=>hk.2) (.int .i64 ((rd_T57 x251001_46 x16_6).f0))) (fun _ hk=>hk.2) (.int .i64 ((rd_T57 x251001_46 x16_6).f1))) (fun _ hk=>hk.2) (.int .i64 ((rd_T57 x251001_46 x16_6).f2))) (fun _ hk=>hk.2) (.bool true)) (fun _ hk=>⟨hk.1.1.1,hk.1.1.2⟩)⟩,⟨by (with_reducible repeat (first|apply Kd.Q_alloc|apply Kd.Q_drewN|apply Kd.Q_drew));exact qM (Kd.Q_far (p:=⟨Ba,3,none⟩) (Kd.Q_far (p:=⟨Ba,2,none⟩) (Kd.Q_far (p:=⟨Ba,1,none⟩) (Kd.Q_far (p:=⟨Ba,0,none⟩) (Kd.Q_types Bh.out Be.out (by decide)) (fun _ hk=>hk.2) (.int .i64 ((rd_T57 x251001_46 x16_6).f0))) (fun _ hk=>hk.2) (.int .i64 ((rd_T57 x251001_46 x16_6).f1))) (fun _ hk=>hk.2) (.int .i64 ((rd_T57 x251001_46 x16_6).f2))) (fun _ hk=>hk.2) (.bool true)) (fun _ hk=>⟨hk.1.1,hk.1.2⟩)⟩,⟨by (with_reducible repeat (first|apply rA|apply rN|apply rD));exact rM (rF (p:=⟨Ba,3,none⟩) (rF (p:=⟨Ba,2,none⟩) (rF (p:=⟨Ba,1,none⟩) (rF (p:=⟨Ba,0,none⟩) (rM Bm.out (fun k_ hk=>(⟨hk,hk.2⟩:_∧k_≠Ba))) (fun _ hk=>hk.2) (.int .i64 ((rd_T57 x251001_46 x16_6).f0))) (fun _ hk=>hk.2) (.int .i64 ((rd_T57 x251001_46 x16_6).f1))) (fun _ hk=>hk.2) (.int .i64 ((rd_T57 x251001_46 x16_6).f2))) (fun _ hk=>hk.2) (.bool true)) (fun _ hk=>hk.1.1)⟩,⟨by (with_reducible repeat (first|apply Kd.Q_alloc|apply Kd.Q_drewN|apply Kd.Q_drew));exact qM (Kd.Q_far (p:=⟨Ba,3,none⟩) (Kd.Q_far (p:=⟨Ba,2,none⟩) (Kd.Q_far (p:=⟨Ba,1,none⟩) (Kd.Q_far (p:=⟨Ba,0,none⟩) (Kd.Q_types Bn.out Be.out (by decide)) (fun _ hk=>hk.2) (.int .i64 ((rd_T57 x251001_46 x16_6).f0))) (fun _ hk=>hk.2) (.int .i64 ((rd_T57 x251001_46 x16_6).f1))) (fun _ hk=>hk.2) (.int .i64 ((rd_T57 x251001_46 x16_6).f2))) (fun _ hk=>hk.2) (.bool true)) (fun _ hk=>hk.1)⟩,⟨by (with_reducible repeat (first|refine bN ?_ _|refine bD ?_|refine bA ?_ _|refine bE ?_ Bp.out _));exact Bb.out⟩,⟨by (with_reducible repeat (first|refine bN ?_ _|refine bD ?_|refine bA ?_ _|refine bE ?_ Bq.out _));exact Bi.out⟩,⟨by (with_reducible repeat (first|refine bN ?_ _|refine bD ?_|refine bA ?_ _|refine bE ?_ Br.out _));exact Bl.out⟩,⟨by repeat (first|(with_reducible first|exact HB.out|apply oA|apply pN|apply o1|refine bS ?_ Bo.out|refine bS ?_ Bs.out|refine bS ?_ Bt.out|refine bS ?_ BB.out)|exact HB.out)⟩⟩
             rw [if_neg c148] at H
             have c148b0:(((rd_T57 x251001_46 x16_6).f0) == 4)=false:=beq_eq_false_iff_ne.mpr c148
             have c148b1:(((rd_T57 x251001_46 x16_6).f0) != 4)=true:=bne_iff_ne.mpr c148
             by_cases c229:x15_6=true
             ·as_aux_lemma=>
               subst c229
               have H1:(laws_FnLockWord.l1 k6 l1 t240 x11_3 (((rd_T57 x251001_46 x16_6).f0) == 5) true (wrap64 (x16_6 + 1)) x251000_46 x251001_46 x251002_46)=some r:=by rw [if_pos rfl] at H;exact H
               clear H
               have H:=H1
               clear H1
               have H':=Am H
               clear H
               have XD:=Bz.out
               have XE:=BA.out
               have XF:=Bx.out
               have XG:=By.out
               have JL:=cz0 Bb.out
               have JM:=cz1 Bb.out
               have JN:=cz2 Bb.out
               have JO:=bF Bb.out 0
               have JP:=bF Bb.out 1
               have JQ:=bF Bb.out 2
               obtain ⟨Ao233,co233,eo233⟩:=rC Bc.out
               subst eo233
               have p272:0≤(x16_6:Int):=oE (by first|(with_reducible assumption)|assumption)
               have q272:x16_6<(x251001_46.length:Int):=oE (by first|(with_reducible assumption)|assumption)
               obtain ⟨ad272,e272,hx272_0,hx272_1,hx272_2,hx272_3⟩:=at_T57 (rR Bc.out).2.2 x16_6 p272 q272
               cases e272
               replace p272:=eq_true p272
               replace q272:=eq_true q272
               go_wp2_with (first|((with_reducible refine gD (N:=17) rfl ?_);(try (refine gate_guard (by rfl) ?_;dsimp only));refine bI ?hg (N:=17) ?hd (cs:=#[.int .i64 0,.int .i64 0,.int .i64 0,.bool false]) (t:=57) ?hr ?_;(case hd=>rfl);(case hg=>rfl);(case hr=>first|(go_simp;done)|(go_simp;rfl));intro Ba hg w234 hbox hb;have n0_:=Am (rB (Kd.R_elderB (rL Bc.out) Ba (Nat.le_of_eq hg.symm)) hb);have n1_:=Am (Kd.Q_below (qL Bf.out) hb);have n2_:=Am (rB (Kd.R_elderB (rL Bg.out) Ba (Nat.le_of_eq hg.symm)) hb);have n3_:=Am (Kd.Q_below (qL Bh.out) hb);have n4_:=Am (rB (Kd.R_elderB (rL Bm.out) Ba (Nat.le_of_eq hg.symm)) hb);have n5_:=Am (Kd.Q_below (qL Bn.out) hb);have n6_:=Am (bX Bb.out hb);have n7_:=Am (bX Bi.out hb);have n8_:=Am (bX Bl.out hb);have n9_:=Am (bP (by repeat (first|(with_reducible first|exact HB.out|apply oA|apply pN|apply o1|refine bS ?_ Bo.out|refine bS ?_ Bs.out|refine bS ?_ Bt.out)|exact HB.out)) hb);have n10_:=Am (hbox);have n11_:=Am ((by rw [hg];exact (bZ (by repeat (first|(with_reducible first|exact HB.out|apply oA|apply pN|apply o1|refine bS ?_ Bo.out|refine bS ?_ Bs.out|refine bS ?_ Bt.out)|exact HB.out))):w.heap.size≤Ba));have n12_:=Am ((by rw [hg];exact (bZ (by repeat (first|(with_reducible first|exact HB.out|apply oA|apply pN|apply o1|refine bS ?_ Bo.out|refine bS ?_ Bs.out|refine bS ?_ Bt.out)|exact HB.out))):w.heap.size≤Ba));have n13_:=Am ((nL Bb.out hg));have n14_:=Am ((nG Bb.out hg));have n15_:=Am ((nL Bi.out hg));have n16_:=Am ((nG Bi.out hg));have n17_:=Am ((nL Bl.out hg));have n18_:=Am ((nG Bl.out hg));clear Bc Bf Bg Bh Bm Bn Bb Bi Bl HB;revert n0_ n1_ n2_ n3_ n4_ n5_ n6_ n7_ n8_ n9_ n10_ n11_ n12_ n13_ n14_ n15_ n16_ n17_ n18_;intro Bc Bf Bg Bh Bm Bn Bb Bi Bl HB Be BI BB Bp Bu Bq Bv Br Bw;clear hb hbox hg;have XH:=Bu.out;have XI:=Bp.out;have XJ:=Bv.out;have XK:=Bq.out;have XL:=Bw.out;have XM:=Br.out;have JR:=cz0 Be.out;have JS:=cz1 Be.out;have JT:=cz2 Be.out;have JU:=cz3 Be.out;have JV:=bF Be.out 0;have JW:=bF Be.out 1;have JX:=bF Be.out 2;have JY:=bF Be.out 3))
               go_roundg k6
               case measure=>have:=BE.out;have:=BF.out;have:=HK3.out;have:=BC.out;have:=BD.out;have:=HK6.out;omega
               case rel=>exact ⟨((((rd_T57 x251001_46 x16_6).f0) == 5)),(true),(wrap64 (x16_6 + 1)),(by first|rfl|(simp;done)|(simp [*];done)),(by first|rfl|(simp;done)|(simp [*];done)),(by first|rfl|(simp;done)|(simp [*];done)),H',⟨by have:=BE.out;have:=BF.out;have:=HK3.out;have:=BC.out;have:=BD.out;have:=HK6.out;omega⟩,⟨by (with_reducible repeat (first|apply rA|apply rN|apply rD));exact rM (rF (p:=⟨Ba,3,none⟩) (rF (p:=⟨Ba,2,none⟩) (rF (p:=⟨Ba,1,none⟩) (rF (p:=⟨Ba,0,none⟩) (rM Bc.out (fun k_ hk=>(⟨hk,hk.2⟩:_∧k_≠Ba))) (fun _ hk=>hk.2) (.int .i64 ((rd_T57 x251001_46 x16_6).f0))) (fun _ hk=>hk.2) (.int .i64 ((rd_T57 x251001_46 x16_6).f1))) (fun _ hk=>hk.2) (.int .i64 ((rd_T57 x251001_46 x16_6).f2))) (fun _ hk=>hk.2) (.bool ((rd_T57 x251001_46 x16_6).f3))) (fun _ hk=>hk.1.1)⟩,⟨by (with_reducible repeat (first|apply Kd.Q_alloc|apply Kd.Q_drewN|apply Kd.Q_drew));exact qM (Kd.Q_far (p:=⟨Ba,3,none⟩) (Kd.Q_far (p:=⟨Ba,2,none⟩) (Kd.Q_far (p:=⟨Ba,1,none⟩) (Kd.Q_far (p:=⟨Ba,0,none⟩) (Kd.Q_types Bf.out Be.out (by decide)) (fun _ hk=>hk.2) (.int .i64 ((rd_T57 x251001_46 x16_6).f0))) (fun _ hk=>hk.2) (.int .i64 ((rd_T57 x251001_46 x16_6).f1))) (fun _ hk=>hk.2) (.int .i64 ((rd_T57 x251001_46 x16_6).f2))) (fun _ hk=>hk.2) (.bool ((rd_T57 x251001_46 x16_6).f3))) (fun _ hk=>hk.1)⟩,⟨by (with_reducible repeat (first|apply rA|apply rN|apply rD));exact rM (rF (p:=⟨Ba,3,none⟩) (rF (p:=⟨Ba,2,none⟩) (rF (p:=⟨Ba,1,none⟩) (rF (p:=⟨Ba,0,none⟩) (rM Bg.out (fun k_ hk=>(⟨hk,hk.2⟩:_∧k_≠Ba))) (fun _ hk=>hk.2) (.int .i64 ((rd_T57 x251001_46 x16_6).f0))) (fun _ hk=>hk.2) (.int .i64 ((rd_T57 x251001_46 x16_6).f1))) (fun _ hk=>hk.2) (.int .i64 ((rd_T57 x251001_46 x16_6).f2))) (fun _ hk=>hk.2) (.bool ((rd_T57 x251001_46 x16_6).f3))) (fun _ hk=>⟨hk.1.1.1,hk.1.1.2⟩)⟩,⟨by (with_reducible repeat (first|apply Kd.Q_alloc|apply Kd.Q_drewN|apply Kd.Q_drew));exact qM (Kd.Q_far (p:=⟨Ba,3,none⟩) (Kd.Q_far (p:=⟨Ba,2,none⟩) (Kd.Q_far (p:=⟨Ba,1,none⟩) (Kd.Q_far (p:=⟨Ba,0,none⟩) (Kd.Q_types Bh.out Be.out (by decide)) (fun _ hk=>hk.2) (.int .i64 ((rd_T57 x251001_46 x16_6).f0))) (fun _ hk=>hk.2) (.int .i64 ((rd_T57 x251001_46 x16_6).f1))) (fun _ hk=>hk.2) (.int .i64 ((rd_T57 x251001_46 x16_6).f2))) (fun _ hk=>hk.2) (.bool ((rd_T57 x251001_46 x16_6).f3))) (fun _ hk=>⟨hk.1.1,hk.1.2⟩)⟩,⟨by (with_reducible repeat (first|apply rA|apply rN|apply rD));exact rM (rF (p:=⟨Ba,3,none⟩) (rF (p:=⟨Ba,2,none⟩) (rF (p:=⟨Ba,1,none⟩) (rF (p:=⟨Ba,0,none⟩) (rM Bm.out (fun k_ hk=>(⟨hk,hk.2⟩:_∧k_≠Ba))) (fun _ hk=>hk.2) (.int .i64 ((rd_T57 x251001_46 x16_6).f0))) (fun _ hk=>hk.2) (.int .i64 ((rd_T57 x251001_46 x16_6).f1))) (fun _ hk=>hk.2) (.int .i64 ((rd_T57 x251001_46 x16_6).f2))) (fun _ hk=>hk.2) (.bool ((rd_T57 x251001_46 x16_6).f3))) (fun _ hk=>hk.1.1)⟩,⟨by (with_reducible repeat (first|apply Kd.Q_alloc|apply Kd.Q_drewN|apply Kd.Q_drew));exact qM (Kd.Q_far (p:=⟨Ba,3,none⟩) (Kd.Q_far (p:=⟨Ba,2,none⟩) (Kd.Q_far (p:=⟨Ba,1,none⟩) (Kd.Q_far (p:=⟨Ba,0,none⟩) (Kd.Q_types Bn.out Be.out (by decide)) (fun _ hk=>hk.2) (.int .i64 ((rd_T57 x251001_46 x16_6).f0))) (fun _ hk=>hk.2) (.int .i64 ((rd_T57 x251001_46 x16_6).f1))) (fun _ hk=>hk.2) (.int .i64 ((rd_T57 x251001_46 x16_6).f2))) (fun _ hk=>hk.2) (.bool ((rd_T57 x251001_46 x16_6).f3))) (fun _ hk=>hk.1)⟩,⟨by (with_reducible repeat (first|refine bN ?_ _|refine bD ?_|refine bA ?_ _|refine bE ?_ Bp.out _));exact Bb.out⟩,⟨by (with_reducible repeat (first|refine bN ?_ _|refine bD ?_|refine bA ?_ _|refine bE ?_ Bq.out _));exact Bi.out⟩,⟨by (with_reducible repeat (first|refine bN ?_ _|refine bD ?_|refine bA ?_ _|refine bE ?_ Br.out _));exact Bl.out⟩,⟨by repeat (first|(with_reducible first|exact HB.out|apply oA|apply pN|apply o1|refine bS ?_ Bo.out|refine bS ?_ Bs.out|refine bS ?_ Bt.out|refine bS ?_ BB.out)|exact HB.out)⟩⟩
             replace c229:=Bool.eq_false_iff.mpr c229
             subst c229
             have H1:(if ((rd_T57 x251001_46 x16_6).f0)=5 then (laws_FnLockWord.l1 k6 l1 t240 x11_3 (((rd_T57 x251001_46 x16_6).f0) == 5) true (wrap64 (x16_6 + 1)) x251000_46 x251001_46 x251002_46) else (if ((rd_T57 x251001_46 x16_6).f0)=6 then (laws_FnLockWord.l1 k6 l1 t240 x11_3 (((rd_T57 x251001_46 x16_6).f0) == 5) true (wrap64 (x16_6 + 1)) x251000_46 x251001_46 x251002_46) else (if ((rd_T57 x251001_46 x16_6).f0)=3 then (if ((rd_T57 x251001_46 x16_6).f3=true) then (if ((rd_T57 x251001_46 x16_6).f0)=1 then (laws_FnLockWord.l1 k6 l1 t240 x11_3 (((rd_T57 x251001_46 x16_6).f0) == 5) true (wrap64 (x16_6 + 1)) x251000_46 x251001_46 x251002_46) else (laws_FnLockWord.l1 k6 l1 t240 x11_3 (((rd_T57 x251001_46 x16_6).f0) == 5) (((rd_T57 x251001_46 x16_6).f0) == 2) (wrap64 (x16_6 + 1)) x251000_46 x251001_46 x251002_46)) else (laws_FnLockWord.l1 k6 l1 t240 x11_3 (((rd_T57 x251001_46 x16_6).f0) == 5) true (wrap64 (x16_6 + 1)) x251000_46 x251001_46 x251002_46)) else (if ((rd_T57 x251001_46 x16_6).f0)=1 then (laws_FnLockWord.l1 k6 l1 t240 x11_3 (((rd_T57 x251001_46 x16_6).f0) == 5) true (wrap64 (x16_6 + 1)) x251000_46 x251001_46 x251002_46) else (laws_FnLockWord.l1 k6 l1 t240 x11_3 (((rd_T57 x251001_46 x16_6).f0) == 5) (((rd_T57 x251001_46 x16_6).f0) == 2) (wrap64 (x16_6 + 1)) x251000_46 x251001_46 x251002_46)))))=some r:=by rw [if_neg (show ¬ (false=true) by decide)] at H;exact H
             clear H
             have H:=H1
             clear H1
             by_cases c239:((rd_T57 x251001_46 x16_6).f0)=5
             ·as_aux_lemma=>
               rw [if_pos c239] at H
               have c239b0:(((rd_T57 x251001_46 x16_6).f0) == 5)=true:=beq_iff_eq.mpr c239
               have c239b1:(((rd_T57 x251001_46 x16_6).f0) != 5)=false:=bne_eq_false_iff_eq.mpr c239
               clear c239
               have H':=Am H
               clear H
               have XN:=Bz.out
               have XO:=BA.out
               have XP:=Bx.out
               have XQ:=By.out
               have JZ:=cz0 Bb.out
               have J0:=cz1 Bb.out
               have J1:=cz2 Bb.out
               have J2:=bF Bb.out 0
               have J3:=bF Bb.out 1
               have J4:=bF Bb.out 2
               obtain ⟨Ao243,co243,eo243⟩:=rC Bc.out
               subst eo243
               have p272:0≤(x16_6:Int):=oE (by first|(with_reducible assumption)|assumption)
               have q272:x16_6<(x251001_46.length:Int):=oE (by first|(with_reducible assumption)|assumption)
               obtain ⟨ad272,e272,hx272_0,hx272_1,hx272_2,hx272_3⟩:=at_T57 (rR Bc.out).2.2 x16_6 p272 q272
               cases e272
               replace p272:=eq_true p272
               replace q272:=eq_true q272
               go_wp2_with (first|((with_reducible refine gD (N:=17) rfl ?_);(try (refine gate_guard (by rfl) ?_;dsimp only));refine bI ?hg (N:=17) ?hd (cs:=#[.int .i64 0,.int .i64 0,.int .i64 0,.bool false]) (t:=57) ?hr ?_;(case hd=>rfl);(case hg=>rfl);(case hr=>first|(go_simp;done)|(go_simp;rfl));intro Ba hg w244 hbox hb;have n0_:=Am (rB (Kd.R_elderB (rL Bc.out) Ba (Nat.le_of_eq hg.symm)) hb);have n1_:=Am (Kd.Q_below (qL Bf.out) hb);have n2_:=Am (rB (Kd.R_elderB (rL Bg.out) Ba (Nat.le_of_eq hg.symm)) hb);have n3_:=Am (Kd.Q_below (qL Bh.out) hb);have n4_:=Am (rB (Kd.R_elderB (rL Bm.out) Ba (Nat.le_of_eq hg.symm)) hb);have n5_:=Am (Kd.Q_below (qL Bn.out) hb);have n6_:=Am (bX Bb.out hb);have n7_:=Am (bX Bi.out hb);have n8_:=Am (bX Bl.out hb);have n9_:=Am (bP (by repeat (first|(with_reducible first|exact HB.out|apply oA|apply pN|apply o1|refine bS ?_ Bo.out|refine bS ?_ Bs.out|refine bS ?_ Bt.out)|exact HB.out)) hb);have n10_:=Am (hbox);have n11_:=Am ((by rw [hg];exact (bZ (by repeat (first|(with_reducible first|exact HB.out|apply oA|apply pN|apply o1|refine bS ?_ Bo.out|refine bS ?_ Bs.out|refine bS ?_ Bt.out)|exact HB.out))):w.heap.size≤Ba));have n12_:=Am ((by rw [hg];exact (bZ (by repeat (first|(with_reducible first|exact HB.out|apply oA|apply pN|apply o1|refine bS ?_ Bo.out|refine bS ?_ Bs.out|refine bS ?_ Bt.out)|exact HB.out))):w.heap.size≤Ba));have n13_:=Am ((nL Bb.out hg));have n14_:=Am ((nG Bb.out hg));have n15_:=Am ((nL Bi.out hg));have n16_:=Am ((nG Bi.out hg));have n17_:=Am ((nL Bl.out hg));have n18_:=Am ((nG Bl.out hg));clear Bc Bf Bg Bh Bm Bn Bb Bi Bl HB;revert n0_ n1_ n2_ n3_ n4_ n5_ n6_ n7_ n8_ n9_ n10_ n11_ n12_ n13_ n14_ n15_ n16_ n17_ n18_;intro Bc Bf Bg Bh Bm Bn Bb Bi Bl HB Be BI BB Bp Bu Bq Bv Br Bw;clear hb hbox hg;have XR:=Bu.out;have XS:=Bp.out;have XT:=Bv.out;have XU:=Bq.out;have XV:=Bw.out;have XW:=Br.out;have J5:=cz0 Be.out;have J6:=cz1 Be.out;have J7:=cz2 Be.out;have J8:=cz3 Be.out;have J9:=bF Be.out 0;have Ma:=bF Be.out 1;have Mb:=bF Be.out 2;have Mc:=bF Be.out 3))
               go_roundg k6
               case measure=>have:=BE.out;have:=BF.out;have:=HK3.out;have:=BC.out;have:=BD.out;have:=HK6.out;omega
               case rel=>exact ⟨((((rd_T57 x251001_46 x16_6).f0) == 5)),(true),(wrap64 (x16_6 + 1)),(by first|rfl|(simp;done)|(simp [*];done)),(by first|rfl|(simp;done)|(simp [*];done)),(by first|rfl|(simp;done)|(simp [*];done)),H',⟨by have:=BE.out;have:=BF.out;have:=HK3.out;have:=BC.out;have:=BD.out;have:=HK6.out;omega⟩,⟨by (with_reducible repeat (first|apply rA|apply rN|apply rD));exact rM (rF (p:=⟨Ba,3,none⟩) (rF (p:=⟨Ba,2,none⟩) (rF (p:=⟨Ba,1,none⟩) (rF (p:=⟨Ba,0,none⟩) (rM Bc.out (fun k_ hk=>(⟨hk,hk.2⟩:_∧k_≠Ba))) (fun _ hk=>hk.2) (.int .i64 ((rd_T57 x251001_46 x16_6).f0))) (fun _ hk=>hk.2) (.int .i64 ((rd_T57 x251001_46 x16_6).f1))) (fun _ hk=>hk.2) (.int .i64 ((rd_T57 x251001_46 x16_6).f2))) (fun _ hk=>hk.2) (.bool ((rd_T57 x251001_46 x16_6).f3))) (fun _ hk=>hk.1.1)⟩,⟨by (with_reducible repeat (first|apply Kd.Q_alloc|apply Kd.Q_drewN|apply Kd.Q_drew));exact qM (Kd.Q_far (p:=⟨Ba,3,none⟩) (Kd.Q_far (p:=⟨Ba,2,none⟩) (Kd.Q_far (p:=⟨Ba,1,none⟩) (Kd.Q_far (p:=⟨Ba,0,none⟩) (Kd.Q_types Bf.out Be.out (by decide)) (fun _ hk=>hk.2) (.int .i64 ((rd_T57 x251001_46 x16_6).f0))) (fun _ hk=>hk.2) (.int .i64 ((rd_T57 x251001_46 x16_6).f1))) (fun _ hk=>hk.2) (.int .i64 ((rd_T57 x251001_46 x16_6).f2))) (fun _ hk=>hk.2) (.bool ((rd_T57 x251001_46 x16_6).f3))) (fun _ hk=>hk.1)⟩,⟨by (with_reducible repeat (first|apply rA|apply rN|apply rD));exact rM (rF (p:=⟨Ba,3,none⟩) (rF (p:=⟨Ba,2,none⟩) (rF (p:=⟨Ba,1,none⟩) (rF (p:=⟨Ba,0,none⟩) (rM Bg.out (fun k_ hk=>(⟨hk,hk.2⟩:_∧k_≠Ba))) (fun _ hk=>hk.2) (.int .i64 ((rd_T57 x251001_46 x16_6).f0))) (fun _ hk=>hk.2) (.int .i64 ((rd_T57 x251001_46 x16_6).f1))) (fun _ hk=>hk.2) (.int .i64 ((rd_T57 x251001_46 x16_6).f2))) (fun _ hk=>hk.2) (.bool ((rd_T57 x251001_46 x16_6).f3))) (fun _ hk=>⟨hk.1.1.1,hk.1.1.2⟩)⟩,⟨by (with_reducible repeat (first|apply Kd.Q_alloc|apply Kd.Q_drewN|apply Kd.Q_drew));exact qM (Kd.Q_far (p:=⟨Ba,3,none⟩) (Kd.Q_far (p:=⟨Ba,2,none⟩) (Kd.Q_far (p:=⟨Ba,1,none⟩) (Kd.Q_far (p:=⟨Ba,0,none⟩) (Kd.Q_types Bh.out Be.out (by decide)) (fun _ hk=>hk.2) (.int .i64 ((rd_T57 x251001_46 x16_6).f0))) (fun _ hk=>hk.2) (.int .i64 ((rd_T57 x251001_46 x16_6).f1))) (fun _ hk=>hk.2) (.int .i64 ((rd_T57 x251001_46 x16_6).f2))) (fun _ hk=>hk.2) (.bool ((rd_T57 x251001_46 x16_6).f3))) (fun _ hk=>⟨hk.1.1,hk.1.2⟩)⟩,⟨by (with_reducible repeat (first|apply rA|apply rN|apply rD));exact rM (rF (p:=⟨Ba,3,none⟩) (rF (p:=⟨Ba,2,none⟩) (rF (p:=⟨Ba,1,none⟩) (rF (p:=⟨Ba,0,none⟩) (rM Bm.out (fun k_ hk=>(⟨hk,hk.2⟩:_∧k_≠Ba))) (fun _ hk=>hk.2) (.int .i64 ((rd_T57 x251001_46 x16_6).f0))) (fun _ hk=>hk.2) (.int .i64 ((rd_T57 x251001_46 x16_6).f1))) (fun _ hk=>hk.2) (.int .i64 ((rd_T57 x251001_46 x16_6).f2))) (fun _ hk=>hk.2) (.bool ((rd_T57 x251001_46 x16_6).f3))) (fun _ hk=>hk.1.1)⟩,⟨by (with_reducible repeat (first|apply Kd.Q_alloc|apply Kd.Q_drewN|apply Kd.Q_drew));exact qM (Kd.Q_far (p:=⟨Ba,3,none⟩) (Kd.Q_far (p:=⟨Ba,2,none⟩) (Kd.Q_far (p:=⟨Ba,1,none⟩) (Kd.Q_far (p:=⟨Ba,0,none⟩) (Kd.Q_types Bn.out Be.out (by decide)) (fun _ hk=>hk.2) (.int .i64 ((rd_T57 x251001_46 x16_6).f0))) (fun _ hk=>hk.2) (.int .i64 ((rd_T57 x251001_46 x16_6).f1))) (fun _ hk=>hk.2) (.int .i64 ((rd_T57 x251001_46 x16_6).f2))) (fun _ hk=>hk.2) (.bool ((rd_T57 x251001_46 x16_6).f3))) (fun _ hk=>hk.1)⟩,⟨by (with_reducible repeat (first|refine bN ?_ _|refine bD ?_|refine bA ?_ _|refine bE ?_ Bp.out _));exact Bb.out⟩,⟨by (with_reducible repeat (first|refine bN ?_ _|refine bD ?_|refine bA ?_ _|refine bE ?_ Bq.out _));exact Bi.out⟩,⟨by (with_reducible repeat (first|refine bN ?_ _|refine bD ?_|refine bA ?_ _|refine bE ?_ Br.out _));exact Bl.out⟩,⟨by repeat (first|(with_reducible first|exact HB.out|apply oA|apply pN|apply o1|refine bS ?_ Bo.out|refine bS ?_ Bs.out|refine bS ?_ Bt.out|refine bS ?_ BB.out)|exact HB.out)⟩⟩
             rw [if_neg c239] at H
             have c239b0:(((rd_T57 x251001_46 x16_6).f0) == 5)=false:=beq_eq_false_iff_ne.mpr c239
             have c239b1:(((rd_T57 x251001_46 x16_6).f0) != 5)=true:=bne_iff_ne.mpr c239
             by_cases c249:((rd_T57 x251001_46 x16_6).f0)=6
             ·as_aux_lemma=>
               rw [if_pos c249] at H
               have c249b0:(((rd_T57 x251001_46 x16_6).f0) == 6)=true:=beq_iff_eq.mpr c249
               have c249b1:(((rd_T57 x251001_46 x16_6).f0) != 6)=false:=bne_eq_false_iff_eq.mpr c249
               clear c249
               have H':=Am H
               clear H
               have XX:=Bz.out
               have XY:=BA.out
               have XZ:=Bx.out
               have X0:=By.out
               have Md:=cz0 Bb.out
               have Me:=cz1 Bb.out
               have Mf:=cz2 Bb.out
               have Mg:=bF Bb.out 0
               have Mh:=bF Bb.out 1
               have Mi:=bF Bb.out 2
               obtain ⟨Ao253,co253,eo253⟩:=rC Bc.out
               subst eo253
               have p272:0≤(x16_6:Int):=oE (by first|(with_reducible assumption)|assumption)
               have q272:x16_6<(x251001_46.length:Int):=oE (by first|(with_reducible assumption)|assumption)
               obtain ⟨ad272,e272,hx272_0,hx272_1,hx272_2,hx272_3⟩:=at_T57 (rR Bc.out).2.2 x16_6 p272 q272
               cases e272
               replace p272:=eq_true p272
               replace q272:=eq_true q272
               go_wp2_with (first|((with_reducible refine gD (N:=17) rfl ?_);(try (refine gate_guard (by rfl) ?_;dsimp only));refine bI ?hg (N:=17) ?hd (cs:=#[.int .i64 0,.int .i64 0,.int .i64 0,.bool false]) (t:=57) ?hr ?_;(case hd=>rfl);(case hg=>rfl);(case hr=>first|(go_simp;done)|(go_simp;rfl));intro Ba hg w254 hbox hb;have n0_:=Am (rB (Kd.R_elderB (rL Bc.out) Ba (Nat.le_of_eq hg.symm)) hb);have n1_:=Am (Kd.Q_below (qL Bf.out) hb);have n2_:=Am (rB (Kd.R_elderB (rL Bg.out) Ba (Nat.le_of_eq hg.symm)) hb);have n3_:=Am (Kd.Q_below (qL Bh.out) hb);have n4_:=Am (rB (Kd.R_elderB (rL Bm.out) Ba (Nat.le_of_eq hg.symm)) hb);have n5_:=Am (Kd.Q_below (qL Bn.out) hb);have n6_:=Am (bX Bb.out hb);have n7_:=Am (bX Bi.out hb);have n8_:=Am (bX Bl.out hb);have n9_:=Am (bP (by repeat (first|(with_reducible first|exact HB.out|apply oA|apply pN|apply o1|refine bS ?_ Bo.out|refine bS ?_ Bs.out|refine bS ?_ Bt.out)|exact HB.out)) hb);have n10_:=Am (hbox);have n11_:=Am ((by rw [hg];exact (bZ (by repeat (first|(with_reducible first|exact HB.out|apply oA|apply pN|apply o1|refine bS ?_ Bo.out|refine bS ?_ Bs.out|refine bS ?_ Bt.out)|exact HB.out))):w.heap.size≤Ba));have n12_:=Am ((by rw [hg];exact (bZ (by repeat (first|(with_reducible first|exact HB.out|apply oA|apply pN|apply o1|refine bS ?_ Bo.out|refine bS ?_ Bs.out|refine bS ?_ Bt.out)|exact HB.out))):w.heap.size≤Ba));have n13_:=Am ((nL Bb.out hg));have n14_:=Am ((nG Bb.out hg));have n15_:=Am ((nL Bi.out hg));have n16_:=Am ((nG Bi.out hg));have n17_:=Am ((nL Bl.out hg));have n18_:=Am ((nG Bl.out hg));clear Bc Bf Bg Bh Bm Bn Bb Bi Bl HB;revert n0_ n1_ n2_ n3_ n4_ n5_ n6_ n7_ n8_ n9_ n10_ n11_ n12_ n13_ n14_ n15_ n16_ n17_ n18_;intro Bc Bf Bg Bh Bm Bn Bb Bi Bl HB Be BI BB Bp Bu Bq Bv Br Bw;clear hb hbox hg;have X1:=Bu.out;have X2:=Bp.out;have X3:=Bv.out;have X4:=Bq.out;have X5:=Bw.out;have X6:=Br.out;have Mj:=cz0 Be.out;have Mk:=cz1 Be.out;have Ml:=cz2 Be.out;have Mm:=cz3 Be.out;have Mn:=bF Be.out 0;have Mo:=bF Be.out 1;have Mp:=bF Be.out 2;have Mq:=bF Be.out 3))
               go_roundg k6
               case measure=>have:=BE.out;have:=BF.out;have:=HK3.out;have:=BC.out;have:=BD.out;have:=HK6.out;omega
               case rel=>exact ⟨((((rd_T57 x251001_46 x16_6).f0) == 5)),(true),(wrap64 (x16_6 + 1)),(by first|rfl|(simp;done)|(simp [*];done)),(by first|rfl|(simp;done)|(simp [*];done)),(by first|rfl|(simp;done)|(simp [*];done)),H',⟨by have:=BE.out;have:=BF.out;have:=HK3.out;have:=BC.out;have:=BD.out;have:=HK6.out;omega⟩,⟨by (with_reducible repeat (first|apply rA|apply rN|apply rD));exact rM (rF (p:=⟨Ba,3,none⟩) (rF (p:=⟨Ba,2,none⟩) (rF (p:=⟨Ba,1,none⟩) (rF (p:=⟨Ba,0,none⟩) (rM Bc.out (fun k_ hk=>(⟨hk,hk.2⟩:_∧k_≠Ba))) (fun _ hk=>hk.2) (.int .i64 ((rd_T57 x251001_46 x16_6).f0))) (fun _ hk=>hk.2) (.int .i64 ((rd_T57 x251001_46 x16_6).f1))) (fun _ hk=>hk.2) (.int .i64 ((rd_T57 x251001_46 x16_6).f2))) (fun _ hk=>hk.2) (.bool ((rd_T57 x251001_46 x16_6).f3))) (fun _ hk=>hk.1.1)⟩,⟨by (with_reducible repeat (first|apply Kd.Q_alloc|apply Kd.Q_drewN|apply Kd.Q_drew));exact qM (Kd.Q_far (p:=⟨Ba,3,none⟩) (Kd.Q_far (p:=⟨Ba,2,none⟩) (Kd.Q_far (p:=⟨Ba,1,none⟩) (Kd.Q_far (p:=⟨Ba,0,none⟩) (Kd.Q_types Bf.out Be.out (by decide)) (fun _ hk=>hk.2) (.int .i64 ((rd_T57 x251001_46 x16_6).f0))) (fun _ hk=>hk.2) (.int .i64 ((rd_T57 x251001_46 x16_6).f1))) (fun _ hk=>hk.2) (.int .i64 ((rd_T57 x251001_46 x16_6).f2))) (fun _ hk=>hk.2) (.bool ((rd_T57 x251001_46 x16_6).f3))) (fun _ hk=>hk.1)⟩,⟨by (with_reducible repeat (first|apply rA|apply rN|apply rD));exact rM (rF (p:=⟨Ba,3,none⟩) (rF (p:=⟨Ba,2,none⟩) (rF (p:=⟨Ba,1,none⟩) (rF (p:=⟨Ba,0,none⟩) (rM Bg.out (fun k_ hk=>(⟨hk,hk.2⟩:_∧k_≠Ba))) (fun _ hk=>hk.2) (.int .i64 ((rd_T57 x251001_46 x16_6).f0))) (fun _ hk=>hk.2) (.int .i64 ((rd_T57 x251001_46 x16_6).f1))) (fun _ hk=>hk.2) (.int .i64 ((rd_T57 x251001_46 x16_6).f2))) (fun _ hk=>hk.2) (.bool ((rd_T57 x251001_46 x16_6).f3))) (fun _ hk=>⟨hk.1.1.1,hk.1.1.2⟩)⟩,⟨by (with_reducible repeat (first|apply Kd.Q_alloc|apply Kd.Q_drewN|apply Kd.Q_drew));exact qM (Kd.Q_far (p:=⟨Ba,3,none⟩) (Kd.Q_far (p:=⟨Ba,2,none⟩) (Kd.Q_far (p:=⟨Ba,1,none⟩) (Kd.Q_far (p:=⟨Ba,0,none⟩) (Kd.Q_types Bh.out Be.out (by decide)) (fun _ hk=>hk.2) (.int .i64 ((rd_T57 x251001_46 x16_6).f0))) (fun _ hk=>hk.2) (.int .i64 ((rd_T57 x251001_46 x16_6).f1))) (fun _ hk=>hk.2) (.int .i64 ((rd_T57 x251001_46 x16_6).f2))) (fun _ hk=>hk.2) (.bool ((rd_T57 x251001_46 x16_6).f3))) (fun _ hk=>⟨hk.1.1,hk.1.2⟩)⟩,⟨by (with_reducible repeat (first|apply rA|apply rN|apply rD));exact rM (rF (p:=⟨Ba,3,none⟩) (rF (p:=⟨Ba,2,none⟩) (rF (p:=⟨Ba,1,none⟩) (rF (p:=⟨Ba,0,none⟩) (rM Bm.out (fun k_ hk=>(⟨hk,hk.2⟩:_∧k_≠Ba))) (fun _ hk=>hk.2) (.int .i64 ((rd_T57 x251001_46 x16_6).f0))) (fun _ hk=>hk.2) (.int .i64 ((rd_T57 x251001_46 x16_6).f1))) (fun _ hk=>hk.2) (.int .i64 ((rd_T57 x251001_46 x16_6).f2))) (fun _ hk=>hk.2) (.bool ((rd_T57 x251001_46 x16_6).f3))) (fun _ hk=>hk.1.1)⟩,⟨by (with_reducible repeat (first|apply Kd.Q_alloc|apply Kd.Q_drewN|apply Kd.Q_drew));exact qM (Kd.Q_far (p:=⟨Ba,3,none⟩) (Kd.Q_far (p:=⟨Ba,2,none⟩) (Kd.Q_far (p:=⟨Ba,1,none⟩) (Kd.Q_far (p:=⟨Ba,0,none⟩) (Kd.Q_types Bn.out Be.out (by decide)) (fun _ hk=>hk.2) (.int .i64 ((rd_T57 x251001_46 x16_6).f0))) (fun _ hk=>hk.2) (.int .i64 ((rd_T57 x251001_46 x16_6).f1))) (fun _ hk=>hk.2) (.int .i64 ((rd_T57 x251001_46 x16_6).f2))) (fun _ hk=>hk.2) (.bool ((rd_T57 x251001_46 x16_6).f3))) (fun _ hk=>hk.1)⟩,⟨by (with_reducible repeat (first|refine bN ?_ _|refine bD ?_|refine bA ?_ _|refine bE ?_ Bp.out _));exact Bb.out⟩,⟨by (with_reducible repeat (first|refine bN ?_ _|refine bD ?_|refine bA ?_ _|refine bE ?_ Bq.out _));exact Bi.out⟩,⟨by (with_reducible repeat (first|refine bN ?_ _|refine bD ?_|refine bA ?_ _|refine bE ?_ Br.out _));exact Bl.out⟩,⟨by repeat (first|(with_reducible first|exact HB.out|apply oA|apply pN|apply o1|refine bS ?_ Bo.out|refine bS ?_ Bs.out|refine bS ?_ Bt.out|refine bS ?_ BB.out)|exact HB.out)⟩⟩
             rw [if_neg c249] at H
             have c249b0:(((rd_T57 x251001_46 x16_6).f0) == 6)=false:=beq_eq_false_iff_ne.mpr c249
             have c249b1:(((rd_T57 x251001_46 x16_6).f0) != 6)=true:=bne_iff_ne.mpr c249
             by_cases c259:((rd_T57 x251001_46 x16_6).f0)=3
             rotate_left
             ·as_aux_lemma=>
               rw [if_neg c259] at H
               have c259b0:(((rd_T57 x251001_46 x16_6).f0) == 3)=false:=beq_eq_false_iff_ne.mpr c259
               have c259b1:(((rd_T57 x251001_46 x16_6).f0) != 3)=true:=bne_iff_ne.mpr c259
               by_cases c290:((rd_T57 x251001_46 x16_6).f0)=1
               ·as_aux_lemma=>
                 rw [if_pos c290] at H
                 have c290b0:(((rd_T57 x251001_46 x16_6).f0) == 1)=true:=beq_iff_eq.mpr c290
                 have c290b1:(((rd_T57 x251001_46 x16_6).f0) != 1)=false:=bne_eq_false_iff_eq.mpr c290
                 clear c290
                 have H':=Am H
                 clear H
                 have YB:=Bz.out
                 have YC:=BA.out
                 have YD:=Bx.out
                 have YE:=By.out
                 have M7:=cz0 Bb.out
                 have M8:=cz1 Bb.out
                 have M9:=cz2 Bb.out
                 have Pa:=bF Bb.out 0
                 have Pb:=bF Bb.out 1
                 have Pc:=bF Bb.out 2
                 obtain ⟨Ao294,co294,eo294⟩:=rC Bc.out
                 subst eo294
                 have p272:0≤(x16_6:Int):=oE (by first|(with_reducible assumption)|assumption)
                 have q272:x16_6<(x251001_46.length:Int):=oE (by first|(with_reducible assumption)|assumption)
                 obtain ⟨ad272,e272,hx272_0,hx272_1,hx272_2,hx272_3⟩:=at_T57 (rR Bc.out).2.2 x16_6 p272 q272
                 cases e272
                 replace p272:=eq_true p272
                 replace q272:=eq_true q272
                 go_wp2_with (first|((with_reducible refine gD (N:=17) rfl ?_);(try (refine gate_guard (by rfl) ?_;dsimp only));refine bI ?hg (N:=17) ?hd (cs:=#[.int .i64 0,.int .i64 0,.int .i64 0,.bool false]) (t:=57) ?hr ?_;(case hd=>rfl);(case hg=>rfl);(case hr=>first|(go_simp;done)|(go_simp;rfl));intro Ba hg w295 hbox hb;have n0_:=Am (rB (Kd.R_elderB (rL Bc.out) Ba (Nat.le_of_eq hg.symm)) hb);have n1_:=Am (Kd.Q_below (qL Bf.out) hb);have n2_:=Am (rB (Kd.R_elderB (rL Bg.out) Ba (Nat.le_of_eq hg.symm)) hb);have n3_:=Am (Kd.Q_below (qL Bh.out) hb);have n4_:=Am (rB (Kd.R_elderB (rL Bm.out) Ba (Nat.le_of_eq hg.symm)) hb);have n5_:=Am (Kd.Q_below (qL Bn.out) hb);have n6_:=Am (bX Bb.out hb);have n7_:=Am (bX Bi.out hb);have n8_:=Am (bX Bl.out hb);have n9_:=Am (bP (by repeat (first|(with_reducible first|exact HB.out|apply oA|apply pN|apply o1|refine bS ?_ Bo.out|refine bS ?_ Bs.out|refine bS ?_ Bt.out)|exact HB.out)) hb);have n10_:=Am (hbox);have n11_:=Am ((by rw [hg];exact (bZ (by repeat (first|(with_reducible first|exact HB.out|apply oA|apply pN|apply o1|refine bS ?_ Bo.out|refine bS ?_ Bs.out|refine bS ?_ Bt.out)|exact HB.out))):w.heap.size≤Ba));have n12_:=Am ((by rw [hg];exact (bZ (by repeat (first|(with_reducible first|exact HB.out|apply oA|apply pN|apply o1|refine bS ?_ Bo.out|refine bS ?_ Bs.out|refine bS ?_ Bt.out)|exact HB.out))):w.heap.size≤Ba));have n13_:=Am ((nL Bb.out hg));have n14_:=Am ((nG Bb.out hg));have n15_:=Am ((nL Bi.out hg));have n16_:=Am ((nG Bi.out hg));have n17_:=Am ((nL Bl.out hg));have n18_:=Am ((nG Bl.out hg));clear Bc Bf Bg Bh Bm Bn Bb Bi Bl HB;revert n0_ n1_ n2_ n3_ n4_ n5_ n6_ n7_ n8_ n9_ n10_ n11_ n12_ n13_ n14_ n15_ n16_ n17_ n18_;intro Bc Bf Bg Bh Bm Bn Bb Bi Bl HB Be BI BB Bp Bu Bq Bv Br Bw;clear hb hbox hg;have YF:=Bu.out;have YG:=Bp.out;have YH:=Bv.out;have YI:=Bq.out;have YJ:=Bw.out;have YK:=Br.out;have Pd:=cz0 Be.out;have Pe:=cz1 Be.out;have Pf:=cz2 Be.out;have Pg:=cz3 Be.out;have Ph:=bF Be.out 0;have Pi:=bF Be.out 1;have Pj:=bF Be.out 2;have Pk:=bF Be.out 3))
                 go_roundg k6
                 case measure=>have:=BE.out;have:=BF.out;have:=HK3.out;have:=BC.out;have:=BD.out;have:=HK6.out;omega
                 case rel=>exact ⟨((((rd_T57 x251001_46 x16_6).f0) == 5)),(true),(wrap64 (x16_6 + 1)),(by first|rfl|(simp;done)|(simp [*];done)),(by first|rfl|(simp;done)|(simp [*];done)),(by first|rfl|(simp;done)|(simp [*];done)),H',⟨by have:=BE.out;have:=BF.out;have:=HK3.out;have:=BC.out;have:=BD.out;have:=HK6.out;omega⟩,⟨by (with_reducible repeat (first|apply rA|apply rN|apply rD));exact rM (rF (p:=⟨Ba,3,none⟩) (rF (p:=⟨Ba,2,none⟩) (rF (p:=⟨Ba,1,none⟩) (rF (p:=⟨Ba,0,none⟩) (rM Bc.out (fun k_ hk=>(⟨hk,hk.2⟩:_∧k_≠Ba))) (fun _ hk=>hk.2) (.int .i64 ((rd_T57 x251001_46 x16_6).f0))) (fun _ hk=>hk.2) (.int .i64 ((rd_T57 x251001_46 x16_6).f1))) (fun _ hk=>hk.2) (.int .i64 ((rd_T57 x251001_46 x16_6).f2))) (fun _ hk=>hk.2) (.bool ((rd_T57 x251001_46 x16_6).f3))) (fun _ hk=>hk.1.1)⟩,⟨by (with_reducible repeat (first|apply Kd.Q_alloc|apply Kd.Q_drewN|apply Kd.Q_drew));exact qM (Kd.Q_far (p:=⟨Ba,3,none⟩) (Kd.Q_far (p:=⟨Ba,2,none⟩) (Kd.Q_far (p:=⟨Ba,1,none⟩) (Kd.Q_far (p:=⟨Ba,0,none⟩) (Kd.Q_types Bf.out Be.out (by decide)) (fun _ hk=>hk.2) (.int .i64 ((rd_T57 x251001_46 x16_6).f0))) (fun _ hk=>hk.2) (.int .i64 ((rd_T57 x251001_46 x16_6).f1))) (fun _ hk=>hk.2) (.int .i64 ((rd_T57 x251001_46 x16_6).f2))) (fun _ hk=>hk.2) (.bool ((rd_T57 x251001_46 x16_6).f3))) (fun _ hk=>hk.1)⟩,⟨by (with_reducible repeat (first|apply rA|apply rN|apply rD));exact rM (rF (p:=⟨Ba,3,none⟩) (rF (p:=⟨Ba,2,none⟩) (rF (p:=⟨Ba,1,none⟩) (rF (p:=⟨Ba,0,none⟩) (rM Bg.out (fun k_ hk=>(⟨hk,hk.2⟩:_∧k_≠Ba))) (fun _ hk=>hk.2) (.int .i64 ((rd_T57 x251001_46 x16_6).f0))) (fun _ hk=>hk.2) (.int .i64 ((rd_T57 x251001_46 x16_6).f1))) (fun _ hk=>hk.2) (.int .i64 ((rd_T57 x251001_46 x16_6).f2))) (fun _ hk=>hk.2) (.bool ((rd_T57 x251001_46 x16_6).f3))) (fun _ hk=>⟨hk.1.1.1,hk.1.1.2⟩)⟩,⟨by (with_reducible repeat (first|apply Kd.Q_alloc|apply Kd.Q_drewN|apply Kd.Q_drew));exact qM (Kd.Q_far (p:=⟨Ba,3,none⟩) (Kd.Q_far (p:=⟨Ba,2,none⟩) (Kd.Q_far (p:=⟨Ba,1,none⟩) (Kd.Q_far (p:=⟨Ba,0,none⟩) (Kd.Q_types Bh.out Be.out (by decide)) (fun _ hk=>hk.2) (.int .i64 ((rd_T57 x251001_46 x16_6).f0))) (fun _ hk=>hk.2) (.int .i64 ((rd_T57 x251001_46 x16_6).f1))) (fun _ hk=>hk.2) (.int .i64 ((rd_T57 x251001_46 x16_6).f2))) (fun _ hk=>hk.2) (.bool ((rd_T57 x251001_46 x16_6).f3))) (fun _ hk=>⟨hk.1.1,hk.1.2⟩)⟩,⟨by (with_reducible repeat (first|apply rA|apply rN|apply rD));exact rM (rF (p:=⟨Ba,3,none⟩) (rF (p:=⟨Ba,2,none⟩) (rF (p:=⟨Ba,1,none⟩) (rF (p:=⟨Ba,0,none⟩) (rM Bm.out (fun k_ hk=>(⟨hk,hk.2⟩:_∧k_≠Ba))) (fun _ hk=>hk.2) (.int .i64 ((rd_T57 x251001_46 x16_6).f0))) (fun _ hk=>hk.2) (.int .i64 ((rd_T57 x251001_46 x16_6).f1))) (fun _ hk=>hk.2) (.int .i64 ((rd_T57 x251001_46 x16_6).f2))) (fun _ hk=>hk.2) (.bool ((rd_T57 x251001_46 x16_6).f3))) (fun _ hk=>hk.1.1)⟩,⟨by (with_reducible repeat (first|apply Kd.Q_alloc|apply Kd.Q_drewN|apply Kd.Q_drew));exact qM (Kd.Q_far (p:=⟨Ba,3,none⟩) (Kd.Q_far (p:=⟨Ba,2,none⟩) (Kd.Q_far (p:=⟨Ba,1,none⟩) (Kd.Q_far (p:=⟨Ba,0,none⟩) (Kd.Q_types Bn.out Be.out (by decide)) (fun _ hk=>hk.2) (.int .i64 ((rd_T57 x251001_46 x16_6).f0))) (fun _ hk=>hk.2) (.int .i64 ((rd_T57 x251001_46 x16_6).f1))) (fun _ hk=>hk.2) (.int .i64 ((rd_T57 x251001_46 x16_6).f2))) (fun _ hk=>hk.2) (.bool ((rd_T57 x251001_46 x16_6).f3))) (fun _ hk=>hk.1)⟩,⟨by (with_reducible repeat (first|refine bN ?_ _|refine bD ?_|refine bA ?_ _|refine bE ?_ Bp.out _));exact Bb.out⟩,⟨by (with_reducible repeat (first|refine bN ?_ _|refine bD ?_|refine bA ?_ _|refine bE ?_ Bq.out _));exact Bi.out⟩,⟨by (with_reducible repeat (first|refine bN ?_ _|refine bD ?_|refine bA ?_ _|refine bE ?_ Br.out _));exact Bl.out⟩,⟨by repeat (first|(with_reducible first|exact HB.out|apply oA|apply pN|apply o1|refine bS ?_ Bo.out|refine bS ?_ Bs.out|refine bS ?_ Bt.out|refine bS ?_ BB.out)|exact HB.out)⟩⟩
               rw [if_neg c290] at H
               have c290b0:(((rd_T57 x251001_46 x16_6).f0) == 1)=false:=beq_eq_false_iff_ne.mpr c290
               have c290b1:(((rd_T57 x251001_46 x16_6).f0) != 1)=true:=bne_iff_ne.mpr c290
               have H':=Am H
               clear H
               have YL:=Bz.out
               have YM:=BA.out
               have YN:=Bx.out
               have YO:=By.out
               have Pl:=cz0 Bb.out
               have Pm:=cz1 Bb.out
               have Pn:=cz2 Bb.out
               have Po:=bF Bb.out 0
               have Pp:=bF Bb.out 1
               have Pq:=bF Bb.out 2
               obtain ⟨Ao303,co303,eo303⟩:=rC Bc.out
               subst eo303
               have p272:0≤(x16_6:Int):=oE (by first|(with_reducible assumption)|assumption)
               have q272:x16_6<(x251001_46.length:Int):=oE (by first|(with_reducible assumption)|assumption)
               obtain ⟨ad272,e272,hx272_0,hx272_1,hx272_2,hx272_3⟩:=at_T57 (rR Bc.out).2.2 x16_6 p272 q272
               cases e272
               replace p272:=eq_true p272
               replace q272:=eq_true q272
               go_wp2_with (first|((with_reducible refine gD (N:=17) rfl ?_);(try (refine gate_guard (by rfl) ?_;dsimp only));refine bI ?hg (N:=17) ?hd (cs:=#[.int .i64 0,.int .i64 0,.int .i64 0,.bool false]) (t:=57) ?hr ?_;(case hd=>rfl);(case hg=>rfl);(case hr=>first|(go_simp;done)|(go_simp;rfl));intro Ba hg w304 hbox hb;have n0_:=Am (rB (Kd.R_elderB (rL Bc.out) Ba (Nat.le_of_eq hg.symm)) hb);have n1_:=Am (Kd.Q_below (qL Bf.out) hb);have n2_:=Am (rB (Kd.R_elderB (rL Bg.out) Ba (Nat.le_of_eq hg.symm)) hb);have n3_:=Am (Kd.Q_below (qL Bh.out) hb);have n4_:=Am (rB (Kd.R_elderB (rL Bm.out) Ba (Nat.le_of_eq hg.symm)) hb);have n5_:=Am (Kd.Q_below (qL Bn.out) hb);have n6_:=Am (bX Bb.out hb);have n7_:=Am (bX Bi.out hb);have n8_:=Am (bX Bl.out hb);have n9_:=Am (bP (by repeat (first|(with_reducible first|exact HB.out|apply oA|apply pN|apply o1|refine bS ?_ Bo.out|refine bS ?_ Bs.out|refine bS ?_ Bt.out)|exact HB.out)) hb);have n10_:=Am (hbox);have n11_:=Am ((by rw [hg];exact (bZ (by repeat (first|(with_reducible first|exact HB.out|apply oA|apply pN|apply o1|refine bS ?_ Bo.out|refine bS ?_ Bs.out|refine bS ?_ Bt.out)|exact HB.out))):w.heap.size≤Ba));have n12_:=Am ((by rw [hg];exact (bZ (by repeat (first|(with_reducible first|exact HB.out|apply oA|apply pN|apply o1|refine bS ?_ Bo.out|refine bS ?_ Bs.out|refine bS ?_ Bt.out)|exact HB.out))):w.heap.size≤Ba));have n13_:=Am ((nL Bb.out hg));have n14_:=Am ((nG Bb.out hg));have n15_:=Am ((nL Bi.out hg));have n16_:=Am ((nG Bi.out hg));have n17_:=Am ((nL Bl.out hg));have n18_:=Am ((nG Bl.out hg));clear Bc Bf Bg Bh Bm Bn Bb Bi Bl HB;revert n0_ n1_ n2_ n3_ n4_ n5_ n6_ n7_ n8_ n9_ n10_ n11_ n12_ n13_ n14_ n15_ n16_ n17_ n18_;intro Bc Bf Bg Bh Bm Bn Bb Bi Bl HB Be BI BB Bp Bu Bq Bv Br Bw;clear hb hbox hg;have YP:=Bu.out;have YQ:=Bp.out;have YR:=Bv.out;have YS:=Bq.out;have YT:=Bw.out;have YU:=Br.out;have Pr:=cz0 Be.out;have Ps:=cz1 Be.out;have Pt:=cz2 Be.out;have Pu:=cz3 Be.out;have Pv:=bF Be.out 0;have Pw:=bF Be.out 1;have Px:=bF Be.out 2;have Py:=bF Be.out 3))
               go_roundg k6
               case measure=>have:=BE.out;have:=BF.out;have:=HK3.out;have:=BC.out;have:=BD.out;have:=HK6.out;omega
               case rel=>exact ⟨((((rd_T57 x251001_46 x16_6).f0) == 5)),((((rd_T57 x251001_46 x16_6).f0) == 2)),(wrap64 (x16_6 + 1)),(by first|rfl|(simp;done)|(simp [*];done)),(by first|rfl|(simp;done)|(simp [*];done)),(by first|rfl|(simp;done)|(simp [*];done)),H',⟨by have:=BE.out;have:=BF.out;have:=HK3.out;have:=BC.out;have:=BD.out;have:=HK6.out;omega⟩,⟨by (with_reducible repeat (first|apply rA|apply rN|apply rD));exact rM (rF (p:=⟨Ba,3,none⟩) (rF (p:=⟨Ba,2,none⟩) (rF (p:=⟨Ba,1,none⟩) (rF (p:=⟨Ba,0,none⟩) (rM Bc.out (fun k_ hk=>(⟨hk,hk.2⟩:_∧k_≠Ba))) (fun _ hk=>hk.2) (.int .i64 ((rd_T57 x251001_46 x16_6).f0))) (fun _ hk=>hk.2) (.int .i64 ((rd_T57 x251001_46 x16_6).f1))) (fun _ hk=>hk.2) (.int .i64 ((rd_T57 x251001_46 x16_6).f2))) (fun _ hk=>hk.2) (.bool ((rd_T57 x251001_46 x16_6).f3))) (fun _ hk=>hk.1.1)⟩,⟨by (with_reducible repeat (first|apply Kd.Q_alloc|apply Kd.Q_drewN|apply Kd.Q_drew));exact qM (Kd.Q_far (p:=⟨Ba,3,none⟩) (Kd.Q_far (p:=⟨Ba,2,none⟩) (Kd.Q_far (p:=⟨Ba,1,none⟩) (Kd.Q_far (p:=⟨Ba,0,none⟩) (Kd.Q_types Bf.out Be.out (by decide)) (fun _ hk=>hk.2) (.int .i64 ((rd_T57 x251001_46 x16_6).f0))) (fun _ hk=>hk.2) (.int .i64 ((rd_T57 x251001_46 x16_6).f1))) (fun _ hk=>hk.2) (.int .i64 ((rd_T57 x251001_46 x16_6).f2))) (fun _ hk=>hk.2) (.bool ((rd_T57 x251001_46 x16_6).f3))) (fun _ hk=>hk.1)⟩,⟨by (with_reducible repeat (first|apply rA|apply rN|apply rD));exact rM (rF (p:=⟨Ba,3,none⟩) (rF (p:=⟨Ba,2,none⟩) (rF (p:=⟨Ba,1,none⟩) (rF (p:=⟨Ba,0,none⟩) (rM Bg.out (fun k_ hk=>(⟨hk,hk.2⟩:_∧k_≠Ba))) (fun _ hk=>hk.2) (.int .i64 ((rd_T57 x251001_46 x16_6).f0))) (fun _ hk=>hk.2) (.int .i64 ((rd_T57 x251001_46 x16_6).f1))) (fun _ hk=>hk.2) (.int .i64 ((rd_T57 x251001_46 x16_6).f2))) (fun _ hk=>hk.2) (.bool ((rd_T57 x251001_46 x16_6).f3))) (fun _ hk=>⟨hk.1.1.1,hk.1.1.2⟩)⟩,⟨by (with_reducible repeat (first|apply Kd.Q_alloc|apply Kd.Q_drewN|apply Kd.Q_drew));exact qM (Kd.Q_far (p:=⟨Ba,3,none⟩) (Kd.Q_far (p:=⟨Ba,2,none⟩) (Kd.Q_far (p:=⟨Ba,1,none⟩) (Kd.Q_far (p:=⟨Ba,0,none⟩) (Kd.Q_types Bh.out Be.out (by decide)) (fun _ hk=>hk.2) (.int .i64 ((rd_T57 x251001_46 x16_6).f0))) (fun _ hk=>hk.2) (.int .i64 ((rd_T57 x251001_46 x16_6).f1))) (fun _ hk=>hk.2) (.int .i64 ((rd_T57 x251001_46 x16_6).f2))) (fun _ hk=>hk.2) (.bool ((rd_T57 x251001_46 x16_6).f3))) (fun _ hk=>⟨hk.1.1,hk.1.2⟩)⟩,⟨by (with_reducible repeat (first|apply rA|apply rN|apply rD));exact rM (rF (p:=⟨Ba,3,none⟩) (rF (p:=⟨Ba,2,none⟩) (rF (p:=⟨Ba,1,none⟩) (rF (p:=⟨Ba,0,none⟩) (rM Bm.out (fun k_ hk=>(⟨hk,hk.2⟩:_∧k_≠Ba))) (fun _ hk=>hk.2) (.int .i64 ((rd_T57 x251001_46 x16_6).f0))) (fun _ hk=>hk.2) (.int .i64 ((rd_T57 x251001_46 x16_6).f1))) (fun _ hk=>hk.2) (.int .i64 ((rd_T57 x251001_46 x16_6).f2))) (fun _ hk=>hk.2) (.bool ((rd_T57 x251001_46 x16_6).f3))) (fun _ hk=>hk.1.1)⟩,⟨by (with_reducible repeat (first|apply Kd.Q_alloc|apply Kd.Q_drewN|apply Kd.Q_drew));exact qM (Kd.Q_far (p:=⟨Ba,3,none⟩) (Kd.Q_far (p:=⟨Ba,2,none⟩) (Kd.Q_far (p:=⟨Ba,1,none⟩) (Kd.Q_far (p:=⟨Ba,0,none⟩) (Kd.Q_types Bn.out Be.out (by decide)) (fun _ hk=>hk.2) (.int .i64 ((rd_T57 x251001_46 x16_6).f0))) (fun _ hk=>hk.2) (.int .i64 ((rd_T57 x251001_46 x16_6).f1))) (fun _ hk=>hk.2) (.int .i64 ((rd_T57 x251001_46 x16_6).f2))) (fun _ hk=>hk.2) (.bool ((rd_T57 x251001_46 x16_6).f3))) (fun _ hk=>hk.1)⟩,⟨by (with_reducible repeat (first|refine bN ?_ _|refine bD ?_|refine bA ?_ _|refine bE ?_ Bp.out _));exact Bb.out⟩,⟨by (with_reducible repeat (first|refine bN ?_ _|refine bD ?_|refine bA ?_ _|refine bE ?_ Bq.out _));exact Bi.out⟩,⟨by (with_reducible repeat (first|refine bN ?_ _|refine bD ?_|refine bA ?_ _|refine bE ?_ Br.out _));exact Bl.out⟩,⟨by repeat (first|(with_reducible first|exact HB.out|apply oA|apply pN|apply o1|refine bS ?_ Bo.out|refine bS ?_ Bs.out|refine bS ?_ Bt.out|refine bS ?_ BB.out)|exact HB.out)⟩⟩
             rw [if_pos c259] at H
             have c259b0:(((rd_T57 x251001_46 x16_6).f0) == 3)=true:=beq_iff_eq.mpr c259
             have c259b1:(((rd_T57 x251001_46 x16_6).f0) != 3)=false:=bne_eq_false_iff_eq.mpr c259
             clear c259
             obtain ⟨bq260,hbq260⟩:∃ b_:Bool,b_=((rd_T57 x251001_46 x16_6).f3):=⟨_,rfl⟩
             replace H:(if (bq260=true) then (if ((rd_T57 x251001_46 x16_6).f0)=1 then (laws_FnLockWord.l1 k6 l1 t240 x11_3 (((rd_T57 x251001_46 x16_6).f0) == 5) true (wrap64 (x16_6 + 1)) x251000_46 x251001_46 x251002_46) else (laws_FnLockWord.l1 k6 l1 t240 x11_3 (((rd_T57 x251001_46 x16_6).f0) == 5) (((rd_T57 x251001_46 x16_6).f0) == 2) (wrap64 (x16_6 + 1)) x251000_46 x251001_46 x251002_46)) else (laws_FnLockWord.l1 k6 l1 t240 x11_3 (((rd_T57 x251001_46 x16_6).f0) == 5) true (wrap64 (x16_6 + 1)) x251000_46 x251001_46 x251002_46))=some r:=by rw [← hbq260] at H;exact H
             have Nbq260:=Am hbq260
             clear hbq260
             by_cases c261:(bq260=true)
             rotate_left
             ·as_aux_lemma=>
               replace c261:=Bool.eq_false_iff.mpr c261
               subst c261
               have H1:(laws_FnLockWord.l1 k6 l1 t240 x11_3 (((rd_T57 x251001_46 x16_6).f0) == 5) true (wrap64 (x16_6 + 1)) x251000_46 x251001_46 x251002_46)=some r:=by rw [if_neg (show ¬ (false=true) by decide)] at H;exact H
               clear H
               have H:=H1
               clear H1
               have H':=Am H
               clear H
               have Yr:=Bz.out
               have Ys:=BA.out
               have Yt:=Bx.out
               have Yu:=By.out
               have MT:=cz0 Bb.out
               have MU:=cz1 Bb.out
               have MV:=cz2 Bb.out
               have MW:=bF Bb.out 0
               have MX:=bF Bb.out 1
               have MY:=bF Bb.out 2
               obtain ⟨Ao284,co284,eo284⟩:=rC Bc.out
               subst eo284
               have p272:0≤(x16_6:Int):=oE (by first|(with_reducible assumption)|assumption)
               have q272:x16_6<(x251001_46.length:Int):=oE (by first|(with_reducible assumption)|assumption)
               obtain ⟨ad272,e272,hx272_0,hx272_1,hx272_2,hx272_3⟩:=at_T57 (rR Bc.out).2.2 x16_6 p272 q272
               (try rw [← Nbq260.out] at hx272_3)
               cases e272
               replace p272:=eq_true p272
               replace q272:=eq_true q272
               go_wp2_with (first|((with_reducible refine gD (N:=17) rfl ?_);(try (refine gate_guard (by rfl) ?_;dsimp only));refine bI ?hg (N:=17) ?hd (cs:=#[.int .i64 0,.int .i64 0,.int .i64 0,.bool false]) (t:=57) ?hr ?_;(case hd=>rfl);(case hg=>rfl);(case hr=>first|(go_simp;done)|(go_simp;rfl));intro Ba hg w285 hbox hb;have n0_:=Am (rB (Kd.R_elderB (rL Bc.out) Ba (Nat.le_of_eq hg.symm)) hb);have n1_:=Am (Kd.Q_below (qL Bf.out) hb);have n2_:=Am (rB (Kd.R_elderB (rL Bg.out) Ba (Nat.le_of_eq hg.symm)) hb);have n3_:=Am (Kd.Q_below (qL Bh.out) hb);have n4_:=Am (rB (Kd.R_elderB (rL Bm.out) Ba (Nat.le_of_eq hg.symm)) hb);have n5_:=Am (Kd.Q_below (qL Bn.out) hb);have n6_:=Am (bX Bb.out hb);have n7_:=Am (bX Bi.out hb);have n8_:=Am (bX Bl.out hb);have n9_:=Am (bP (by repeat (first|(with_reducible first|exact HB.out|apply oA|apply pN|apply o1|refine bS ?_ Bo.out|refine bS ?_ Bs.out|refine bS ?_ Bt.out)|exact HB.out)) hb);have n10_:=Am (hbox);have n11_:=Am ((by rw [hg];exact (bZ (by repeat (first|(with_reducible first|exact HB.out|apply oA|apply pN|apply o1|refine bS ?_ Bo.out|refine bS ?_ Bs.out|refine bS ?_ Bt.out)|exact HB.out))):w.heap.size≤Ba));have n12_:=Am ((by rw [hg];exact (bZ (by repeat (first|(with_reducible first|exact HB.out|apply oA|apply pN|apply o1|refine bS ?_ Bo.out|refine bS ?_ Bs.out|refine bS ?_ Bt.out)|exact HB.out))):w.heap.size≤Ba));have n13_:=Am ((nL Bb.out hg));have n14_:=Am ((nG Bb.out hg));have n15_:=Am ((nL Bi.out hg));have n16_:=Am ((nG Bi.out hg));have n17_:=Am ((nL Bl.out hg));have n18_:=Am ((nG Bl.out hg));clear Bc Bf Bg Bh Bm Bn Bb Bi Bl HB;revert n0_ n1_ n2_ n3_ n4_ n5_ n6_ n7_ n8_ n9_ n10_ n11_ n12_ n13_ n14_ n15_ n16_ n17_ n18_;intro Bc Bf Bg Bh Bm Bn Bb Bi Bl HB Be BI BB Bp Bu Bq Bv Br Bw;clear hb hbox hg;have Yv:=Bu.out;have Yw:=Bp.out;have Yx:=Bv.out;have Yy:=Bq.out;have Yz:=Bw.out;have YA:=Br.out;have MZ:=cz0 Be.out;have M0:=cz1 Be.out;have M1:=cz2 Be.out;have M2:=cz3 Be.out;have M3:=bF Be.out 0;have M4:=bF Be.out 1;have M5:=bF Be.out 2;have M6:=bF Be.out 3))
               go_roundg k6
               case measure=>have:=BE.out;have:=BF.out;have:=HK3.out;have:=BC.out;have:=BD.out;have:=HK6.out;omega
               case rel=>(try rw [← Nbq260.out]);exact ⟨((((rd_T57 x251001_46 x16_6).f0) == 5)),(true),(wrap64 (x16_6 + 1)),(by first|rfl|(simp;done)|(simp [*];done)),(by first|rfl|(simp;done)|(simp [*];done)),(by first|rfl|(simp;done)|(simp [*];done)),H',⟨by have:=BE.out;have:=BF.out;have:=HK3.out;have:=BC.out;have:=BD.out;have:=HK6.out;omega⟩,⟨by (with_reducible repeat (first|apply rA|apply rN|apply rD));exact rM (rF (p:=⟨Ba,3,none⟩) (rF (p:=⟨Ba,2,none⟩) (rF (p:=⟨Ba,1,none⟩) (rF (p:=⟨Ba,0,none⟩) (rM Bc.out (fun k_ hk=>(⟨hk,hk.2⟩:_∧k_≠Ba))) (fun _ hk=>hk.2) (.int .i64 ((rd_T57 x251001_46 x16_6).f0))) (fun _ hk=>hk.2) (.int .i64 ((rd_T57 x251001_46 x16_6).f1))) (fun _ hk=>hk.2) (.int .i64 ((rd_T57 x251001_46 x16_6).f2))) (fun _ hk=>hk.2) (.bool false)) (fun _ hk=>hk.1.1)⟩,⟨by (with_reducible repeat (first|apply Kd.Q_alloc|apply Kd.Q_drewN|apply Kd.Q_drew));exact qM (Kd.Q_far (p:=⟨Ba,3,none⟩) (Kd.Q_far (p:=⟨Ba,2,none⟩) (Kd.Q_far (p:=⟨Ba,1,none⟩) (Kd.Q_far (p:=⟨Ba,0,none⟩) (Kd.Q_types Bf.out Be.out (by decide)) (fun _ hk=>hk.2) (.int .i64 ((rd_T57 x251001_46 x16_6).f0))) (fun _ hk=>hk.2) (.int .i64 ((rd_T57 x251001_46 x16_6).f1))) (fun _ hk=>hk.2) (.int .i64 ((rd_T57 x251001_46 x16_6).f2))) (fun _ hk=>hk.2) (.bool false)) (fun _ hk=>hk.1)⟩,⟨by (with_reducible repeat (first|apply rA|apply rN|apply rD));exact rM (rF (p:=⟨Ba,3,none⟩) (rF (p:=⟨Ba,2,none⟩) (rF (p:=⟨Ba,1,none⟩) (rF (p:=⟨Ba,0,none⟩) (rM Bg.out (fun k_ hk=>(⟨hk,hk.2⟩:_∧k_≠Ba))) (fun _ hk=>hk.2) (.int .i64 ((rd_T57 x251001_46 x16_6).f0))) (fun _ hk=>hk.2) (.int .i64 ((rd_T57 x251001_46 x16_6).f1))) (fun _ hk=>hk.2) (.int .i64 ((rd_T57 x251001_46 x16_6).f2))) (fun _ hk=>hk.2) (.bool false)) (fun _ hk=>⟨hk.1.1.1,hk.1.1.2⟩)⟩,⟨by (with_reducible repeat (first|apply Kd.Q_alloc|apply Kd.Q_drewN|apply Kd.Q_drew));exact qM (Kd.Q_far (p:=⟨Ba,3,none⟩) (Kd.Q_far (p:=⟨Ba,2,none⟩) (Kd.Q_far (p:=⟨Ba,1,none⟩) (Kd.Q_far (p:=⟨Ba,0,none⟩) (Kd.Q_types Bh.out Be.out (by decide)) (fun _ hk=>hk.2) (.int .i64 ((rd_T57 x251001_46 x16_6).f0))) (fun _ hk=>hk.2) (.int .i64 ((rd_T57 x251001_46 x16_6).f1))) (fun _ hk=>hk.2) (.int .i64 ((rd_T57 x251001_46 x16_6).f2))) (fun _ hk=>hk.2) (.bool false)) (fun _ hk=>⟨hk.1.1,hk.1.2⟩)⟩,⟨by (with_reducible repeat (first|apply rA|apply rN|apply rD));exact rM (rF (p:=⟨Ba,3,none⟩) (rF (p:=⟨Ba,2,none⟩) (rF (p:=⟨Ba,1,none⟩) (rF (p:=⟨Ba,0,none⟩) (rM Bm.out (fun k_ hk=>(⟨hk,hk.2⟩:_∧k_≠Ba))) (fun _ hk=>hk.2) (.int .i64 ((rd_T57 x251001_46 x16_6).f0))) (fun _ hk=>hk.2) (.int .i64 ((rd_T57 x251001_46 x16_6).f1))) (fun _ hk=>hk.2) (.int .i64 ((rd_T57 x251001_46 x16_6).f2))) (fun _ hk=>hk.2) (.bool false)) (fun _ hk=>hk.1.1)⟩,⟨by (with_reducible repeat (first|apply Kd.Q_alloc|apply Kd.Q_drewN|apply Kd.Q_drew));exact qM (Kd.Q_far (p:=⟨Ba,3,none⟩) (Kd.Q_far (p:=⟨Ba,2,none⟩) (Kd.Q_far (p:=⟨Ba,1,none⟩) (Kd.Q_far (p:=⟨Ba,0,none⟩) (Kd.Q_types Bn.out Be.out (by decide)) (fun _ hk=>hk.2) (.int .i64 ((rd_T57 x251001_46 x16_6).f0))) (fun _ hk=>hk.2) (.int .i64 ((rd_T57 x251001_46 x16_6).f1))) (fun _ hk=>hk.2) (.int .i64 ((rd_T57 x251001_46 x16_6).f2))) (fun _ hk=>hk.2) (.bool false)) (fun _ hk=>hk.1)⟩,⟨by (with_reducible repeat (first|refine bN ?_ _|refine bD ?_|refine bA ?_ _|refine bE ?_ Bp.out _));exact Bb.out⟩,⟨by (with_reducible repeat (first|refine bN ?_ _|refine bD ?_|refine bA ?_ _|refine bE ?_ Bq.out _));exact Bi.out⟩,⟨by (with_reducible repeat (first|refine bN ?_ _|refine bD ?_|refine bA ?_ _|refine bE ?_ Br.out _));exact Bl.out⟩,⟨by repeat (first|(with_reducible first|exact HB.out|apply oA|apply pN|apply o1|refine bS ?_ Bo.out|refine bS ?_ Bs.out|refine bS ?_ Bt.out|refine bS ?_ BB.out)|exact HB.out)⟩⟩
             subst c261
             have H1:(if ((rd_T57 x251001_46 x16_6).f0)=1 then (laws_FnLockWord.l1 k6 l1 t240 x11_3 (((rd_T57 x251001_46 x16_6).f0) == 5) true (wrap64 (x16_6 + 1)) x251000_46 x251001_46 x251002_46) else (laws_FnLockWord.l1 k6 l1 t240 x11_3 (((rd_T57 x251001_46 x16_6).f0) == 5) (((rd_T57 x251001_46 x16_6).f0) == 2) (wrap64 (x16_6 + 1)) x251000_46 x251001_46 x251002_46))=some r:=by rw [if_pos rfl] at H;exact H
             clear H
             have H:=H1
             clear H1
             by_cases c262:((rd_T57 x251001_46 x16_6).f0)=1
             ·as_aux_lemma=>
               rw [if_pos c262] at H
               have c262b0:(((rd_T57 x251001_46 x16_6).f0) == 1)=true:=beq_iff_eq.mpr c262
               have c262b1:(((rd_T57 x251001_46 x16_6).f0) != 1)=false:=bne_eq_false_iff_eq.mpr c262
               clear c262
               have H':=Am H
               clear H
               have X7:=Bz.out
               have X8:=BA.out
               have X9:=Bx.out
               have Ya:=By.out
               have Mr:=cz0 Bb.out
               have Ms:=cz1 Bb.out
               have Mt:=cz2 Bb.out
               have Mu:=bF Bb.out 0
               have Mv:=bF Bb.out 1
               have Mw:=bF Bb.out 2
               obtain ⟨Ao266,co266,eo266⟩:=rC Bc.out
               subst eo266
               have p272:0≤(x16_6:Int):=oE (by first|(with_reducible assumption)|assumption)
               have q272:x16_6<(x251001_46.length:Int):=oE (by first|(with_reducible assumption)|assumption)
               obtain ⟨ad272,e272,hx272_0,hx272_1,hx272_2,hx272_3⟩:=at_T57 (rR Bc.out).2.2 x16_6 p272 q272
               (try rw [← Nbq260.out] at hx272_3)
               cases e272
               replace p272:=eq_true p272
               replace q272:=eq_true q272
               go_wp2_with (first|((with_reducible refine gD (N:=17) rfl ?_);(try (refine gate_guard (by rfl) ?_;dsimp only));refine bI ?hg (N:=17) ?hd (cs:=#[.int .i64 0,.int .i64 0,.int .i64 0,.bool false]) (t:=57) ?hr ?_;(case hd=>rfl);(case hg=>rfl);(case hr=>first|(go_simp;done)|(go_simp;rfl));intro Ba hg w267 hbox hb;have n0_:=Am (rB (Kd.R_elderB (rL Bc.out) Ba (Nat.le_of_eq hg.symm)) hb);have n1_:=Am (Kd.Q_below (qL Bf.out) hb);have n2_:=Am (rB (Kd.R_elderB (rL Bg.out) Ba (Nat.le_of_eq hg.symm)) hb);have n3_:=Am (Kd.Q_below (qL Bh.out) hb);have n4_:=Am (rB (Kd.R_elderB (rL Bm.out) Ba (Nat.le_of_eq hg.symm)) hb);have n5_:=Am (Kd.Q_below (qL Bn.out) hb);have n6_:=Am (bX Bb.out hb);have n7_:=Am (bX Bi.out hb);have n8_:=Am (bX Bl.out hb);have n9_:=Am (bP (by repeat (first|(with_reducible first|exact HB.out|apply oA|apply pN|apply o1|refine bS ?_ Bo.out|refine bS ?_ Bs.out|refine bS ?_ Bt.out)|exact HB.out)) hb);have n10_:=Am (hbox);have n11_:=Am ((by rw [hg];exact (bZ (by repeat (first|(with_reducible first|exact HB.out|apply oA|apply pN|apply o1|refine bS ?_ Bo.out|refine bS ?_ Bs.out|refine bS ?_ Bt.out)|exact HB.out))):w.heap.size≤Ba));have n12_:=Am ((by rw [hg];exact (bZ (by repeat (first|(with_reducible first|exact HB.out|apply oA|apply pN|apply o1|refine bS ?_ Bo.out|refine bS ?_ Bs.out|refine bS ?_ Bt.out)|exact HB.out))):w.heap.size≤Ba));have n13_:=Am ((nL Bb.out hg));have n14_:=Am ((nG Bb.out hg));have n15_:=Am ((nL Bi.out hg));have n16_:=Am ((nG Bi.out hg));have n17_:=Am ((nL Bl.out hg));have n18_:=Am ((nG Bl.out hg));clear Bc Bf Bg Bh Bm Bn Bb Bi Bl HB;revert n0_ n1_ n2_ n3_ n4_ n5_ n6_ n7_ n8_ n9_ n10_ n11_ n12_ n13_ n14_ n15_ n16_ n17_ n18_;intro Bc Bf Bg Bh Bm Bn Bb Bi Bl HB Be BI BB Bp Bu Bq Bv Br Bw;clear hb hbox hg;have Yb:=Bu.out;have Yc:=Bp.out;have Yd:=Bv.out;have Ye:=Bq.out;have Yf:=Bw.out;have Yg:=Br.out;have Mx:=cz0 Be.out;have My:=cz1 Be.out;have Mz:=cz2 Be.out;have MA:=cz3 Be.out;have MB:=bF Be.out 0;have MC:=bF Be.out 1;have MD:=bF Be.out 2;have ME:=bF Be.out 3))
               go_roundg k6
               case measure=>have:=BE.out;have:=BF.out;have:=HK3.out;have:=BC.out;have:=BD.out;have:=HK6.out;omega
               case rel=>(try rw [← Nbq260.out]);exact ⟨((((rd_T57 x251001_46 x16_6).f0) == 5)),(true),(wrap64 (x16_6 + 1)),(by first|rfl|(simp;done)|(simp [*];done)),(by first|rfl|(simp;done)|(simp [*];done)),(by first|rfl|(simp;done)|(simp [*];done)),H',⟨by have:=BE.out;have:=BF.out;have:=HK3.out;have:=BC.out;have:=BD.out;have:=HK6.out;omega⟩,⟨by (with_reducible repeat (first|apply rA|apply rN|apply rD));exact rM (rF (p:=⟨Ba,3,none⟩) (rF (p:=⟨Ba,2,none⟩) (rF (p:=⟨Ba,1,none⟩) (rF (p:=⟨Ba,0,none⟩) (rM Bc.out (fun k_ hk=>(⟨hk,hk.2⟩:_∧k_≠Ba))) (fun _ hk=>hk.2) (.int .i64 ((rd_T57 x251001_46 x16_6).f0))) (fun _ hk=>hk.2) (.int .i64 ((rd_T57 x251001_46 x16_6).f1))) (fun _ hk=>hk.2) (.int .i64 ((rd_T57 x251001_46 x16_6).f2))) (fun _ hk=>hk.2) (.bool true)) (fun _ hk=>hk.1.1)⟩,⟨by (with_reducible repeat (first|apply Kd.Q_alloc|apply Kd.Q_drewN|apply Kd.Q_drew));exact qM (Kd.Q_far (p:=⟨Ba,3,none⟩) (Kd.Q_far (p:=⟨Ba,2,none⟩) (Kd.Q_far (p:=⟨Ba,1,none⟩) (Kd.Q_far (p:=⟨Ba,0,none⟩) (Kd.Q_types Bf.out Be.out (by decide)) (fun _ hk=>hk.2) (.int .i64 ((rd_T57 x251001_46 x16_6).f0))) (fun _ hk=>hk.2) (.int .i64 ((rd_T57 x251001_46 x16_6).f1))) (fun _ hk=>hk.2) (.int .i64 ((rd_T57 x251001_46 x16_6).f2))) (fun _ hk=>hk.2) (.bool true)) (fun _ hk=>hk.1)⟩,⟨by (with_reducible repeat (first|apply rA|apply rN|apply rD));exact rM (rF (p:=⟨Ba,3,none⟩) (rF (p:=⟨Ba,2,none⟩) (rF (p:=⟨Ba,1,none⟩) (rF (p:=⟨Ba,0,none⟩) (rM Bg.out (fun k_ hk=>(⟨hk,hk.2⟩:_∧k_≠Ba))) (fun _ hk=>hk.2) (.int .i64 ((rd_T57 x251001_46 x16_6).f0))) (fun _ hk=>hk.2) (.int .i64 ((rd_T57 x251001_46 x16_6).f1))) (fun _ hk=>hk.2) (.int .i64 ((rd_T57 x251001_46 x16_6).f2))) (fun _ hk=>hk.2) (.bool true)) (fun _ hk=>⟨hk.1.1.1,hk.1.1.2⟩)⟩,⟨by (with_reducible repeat (first|apply Kd.Q_alloc|apply Kd.Q_drewN|apply Kd.Q_drew));exact qM (Kd.Q_far (p:=⟨Ba,3,none⟩) (Kd.Q_far (p:=⟨Ba,2,none⟩) (Kd.Q_far (p:=⟨Ba,1,none⟩) (Kd.Q_far (p:=⟨Ba,0,none⟩) (Kd.Q_types Bh.out Be.out (by decide)) (fun _ hk=>hk.2) (.int .i64 ((rd_T57 x251001_46 x16_6).f0))) (fun _ hk=>hk.2) (.int .i64 ((rd_T57 x251001_46 x16_6).f1))) (fun _ hk=>hk.2) (.int .i64 ((rd_T57 x251001_46 x16_6).f2))) (fun _ hk=>hk.2) (.bool true)) (fun _ hk=>⟨hk.1.1,hk.1.2⟩)⟩,⟨by (with_reducible repeat (first|apply rA|apply rN|apply rD));exact rM (rF (p:=⟨Ba,3,none⟩) (rF (p:=⟨Ba,2,none⟩) (rF (p:=⟨Ba,1,none⟩) (rF (p:=⟨Ba,0,none⟩) (rM Bm.out (fun k_ hk=>(⟨hk,hk.2⟩:_∧k_≠Ba))) (fun _ hk=>hk.2) (.int .i64 ((rd_T57 x251001_46 x16_6).f0))) (fun _ hk=>hk.2) (.int .i64 ((rd_T57 x251001_46 x16_6).f1))) (fun _ hk=>hk.2) (.int .i64 ((rd_T57 x251001_46 x16_6).f2))) (fun _ hk=>hk.2) (.bool true)) (fun _ hk=>hk.1.1)⟩,⟨by (with_reducible repeat (first|apply Kd.Q_alloc|apply Kd.Q_drewN|apply Kd.Q_drew));exact qM (Kd.Q_far (p:=⟨Ba,3,none⟩) (Kd.Q_far (p:=⟨Ba,2,none⟩) (Kd.Q_far (p:=⟨Ba,1,none⟩) (Kd.Q_far (p:=⟨Ba,0,none⟩) (Kd.Q_types Bn.out Be.out (by decide)) (fun _ hk=>hk.2) (.int .i64 ((rd_T57 x251001_46 x16_6).f0))) (fun _ hk=>hk.2) (.int .i64 ((rd_T57 x251001_46 x16_6).f1))) (fun _ hk=>hk.2) (.int .i64 ((rd_T57 x251001_46 x16_6).f2))) (fun _ hk=>hk.2) (.bool true)) (fun _ hk=>hk.1)⟩,⟨by (with_reducible repeat (first|refine bN ?_ _|refine bD ?_|refine bA ?_ _|refine bE ?_ Bp.out _));exact Bb.out⟩,⟨by (with_reducible repeat (first|refine bN ?_ _|refine bD ?_|refine bA ?_ _|refine bE ?_ Bq.out _));exact Bi.out⟩,⟨by (with_reducible repeat (first|refine bN ?_ _|refine bD ?_|refine bA ?_ _|refine bE ?_ Br.out _));exact Bl.out⟩,⟨by repeat (first|(with_reducible first|exact HB.out|apply oA|apply pN|apply o1|refine bS ?_ Bo.out|refine bS ?_ Bs.out|refine bS ?_ Bt.out|refine bS ?_ BB.out)|exact HB.out)⟩⟩
             rw [if_neg c262] at H
             have c262b0:(((rd_T57 x251001_46 x16_6).f0) == 1)=false:=beq_eq_false_iff_ne.mpr c262
             have c262b1:(((rd_T57 x251001_46 x16_6).f0) != 1)=true:=bne_iff_ne.mpr c262
             have H':=Am H
             clear H
             have Yh:=Bz.out
             have Yi:=BA.out
             have Yj:=Bx.out
             have Yk:=By.out
             have MF:=cz0 Bb.out
             have MG:=cz1 Bb.out
             have MH:=cz2 Bb.out
             have MI:=bF Bb.out 0
             have MJ:=bF Bb.out 1
             have MK:=bF Bb.out 2
             obtain ⟨Ao275,co275,eo275⟩:=rC Bc.out
             subst eo275
             have p272:0≤(x16_6:Int):=oE (by first|(with_reducible assumption)|assumption)
             have q272:x16_6<(x251001_46.length:Int):=oE (by first|(with_reducible assumption)|assumption)
             obtain ⟨ad272,e272,hx272_0,hx272_1,hx272_2,hx272_3⟩:=at_T57 (rR Bc.out).2.2 x16_6 p272 q272
             (try rw [← Nbq260.out] at hx272_3)
             cases e272
             replace p272:=eq_true p272
             replace q272:=eq_true q272
             go_wp2_with (first|((with_reducible refine gD (N:=17) rfl ?_);(try (refine gate_guard (by rfl) ?_;dsimp only));refine bI ?hg (N:=17) ?hd (cs:=#[.int .i64 0,.int .i64 0,.int .i64 0,.bool false]) (t:=57) ?hr ?_;(case hd=>rfl);(case hg=>rfl);(case hr=>first|(go_simp;done)|(go_simp;rfl));intro Ba hg w276 hbox hb;have n0_:=Am (rB (Kd.R_elderB (rL Bc.out) Ba (Nat.le_of_eq hg.symm)) hb);have n1_:=Am (Kd.Q_below (qL Bf.out) hb);have n2_:=Am (rB (Kd.R_elderB (rL Bg.out) Ba (Nat.le_of_eq hg.symm)) hb);have n3_:=Am (Kd.Q_below (qL Bh.out) hb);have n4_:=Am (rB (Kd.R_elderB (rL Bm.out) Ba (Nat.le_of_eq hg.symm)) hb);have n5_:=Am (Kd.Q_below (qL Bn.out) hb);have n6_:=Am (bX Bb.out hb);have n7_:=Am (bX Bi.out hb);have n8_:=Am (bX Bl.out hb);have n9_:=Am (bP (by repeat (first|(with_reducible first|exact HB.out|apply oA|apply pN|apply o1|refine bS ?_ Bo.out|refine bS ?_ Bs.out|refine bS ?_ Bt.out)|exact HB.out)) hb);have n10_:=Am (hbox);have n11_:=Am ((by rw [hg];exact (bZ (by repeat (first|(with_reducible first|exact HB.out|apply oA|apply pN|apply o1|refine bS ?_ Bo.out|refine bS ?_ Bs.out|refine bS ?_ Bt.out)|exact HB.out))):w.heap.size≤Ba));have n12_:=Am ((by rw [hg];exact (bZ (by repeat (first|(with_reducible first|exact HB.out|apply oA|apply pN|apply o1|refine bS ?_ Bo.out|refine bS ?_ Bs.out|refine bS ?_ Bt.out)|exact HB.out))):w.heap.size≤Ba));have n13_:=Am ((nL Bb.out hg));have n14_:=Am ((nG Bb.out hg));have n15_:=Am ((nL Bi.out hg));have n16_:=Am ((nG Bi.out hg));have n17_:=Am ((nL Bl.out hg));have n18_:=Am ((nG Bl.out hg));clear Bc Bf Bg Bh Bm Bn Bb Bi Bl HB;revert n0_ n1_ n2_ n3_ n4_ n5_ n6_ n7_ n8_ n9_ n10_ n11_ n12_ n13_ n14_ n15_ n16_ n17_ n18_;intro Bc Bf Bg Bh Bm Bn Bb Bi Bl HB Be BI BB Bp Bu Bq Bv Br Bw;clear hb hbox hg;have Yl:=Bu.out;have Ym:=Bp.out;have Yn:=Bv.out;have Yo:=Bq.out;have Yp:=Bw.out;have Yq:=Br.out;have ML:=cz0 Be.out;have MM:=cz1 Be.out;have MN:=cz2 Be.out;have MO:=cz3 Be.out;have MP:=bF Be.out 0;have MQ:=bF Be.out 1;have MR:=bF Be.out 2;have MS:=bF Be.out 3))
             go_roundg k6
             case measure=>have:=BE.out;have:=BF.out;have:=HK3.out;have:=BC.out;have:=BD.out;have:=HK6.out;omega
             case rel=>(try rw [← Nbq260.out]);exact ⟨((((rd_T57 x251001_46 x16_6).f0) == 5)),((((rd_T57 x251001_46 x16_6).f0) == 2)),(wrap64 (x16_6 + 1)),(by first|rfl|(simp;done)|(simp [*];done)),(by first|rfl|(simp;done)|(simp [*];done)),(by first|rfl|(simp;done)|(simp [*];done)),H',⟨by have:=BE.out;have:=BF.out;have:=HK3.out;have:=BC.out;have:=BD.out;have:=HK6.out;omega⟩,⟨by (with_reducible repeat (first|apply rA|apply rN|apply rD));exact rM (rF (p:=⟨Ba,3,none⟩) (rF (p:=⟨Ba,2,none⟩) (rF (p:=⟨Ba,1,none⟩) (rF (p:=⟨Ba,0,none⟩) (rM Bc.out (fun k_ hk=>(⟨hk,hk.2⟩:_∧k_≠Ba))) (fun _ hk=>hk.2) (.int .i64 ((rd_T57 x251001_46 x16_6).f0))) (fun _ hk=>hk.2) (.int .i64 ((rd_T57 x251001_46 x16_6).f1))) (fun _ hk=>hk.2) (.int .i64 ((rd_T57 x251001_46 x16_6).f2))) (fun _ hk=>hk.2) (.bool true)) (fun _ hk=>hk.1.1)⟩,⟨by (with_reducible repeat (first|apply Kd.Q_alloc|apply Kd.Q_drewN|apply Kd.Q_drew));exact qM (Kd.Q_far (p:=⟨Ba,3,none⟩) (Kd.Q_far (p:=⟨Ba,2,none⟩) (Kd.Q_far (p:=⟨Ba,1,none⟩) (Kd.Q_far (p:=⟨Ba,0,none⟩) (Kd.Q_types Bf.out Be.out (by decide)) (fun _ hk=>hk.2) (.int .i64 ((rd_T57 x251001_46 x16_6).f0))) (fun _ hk=>hk.2) (.int .i64 ((rd_T57 x251001_46 x16_6).f1))) (fun _ hk=>hk.2) (.int .i64 ((rd_T57 x251001_46 x16_6).f2))) (fun _ hk=>hk.2) (.bool true)) (fun _ hk=>hk.1)⟩,⟨by (with_reducible repeat (first|apply rA|apply rN|apply rD));exact rM (rF (p:=⟨Ba,3,none⟩) (rF (p:=⟨Ba,2,none⟩) (rF (p:=⟨Ba,1,none⟩) (rF (p:=⟨Ba,0,none⟩) (rM Bg.out (fun k_ hk=>(⟨hk,hk.2⟩:_∧k_≠Ba))) (fun _ hk=>hk.2) (.int .i64 ((rd_T57 x251001_46 x16_6).f0))) (fun _ hk=>hk.2) (.int .i64 ((rd_T57 x251001_46 x16_6).f1))) (fun _ hk=>hk.2) (.int .i64 ((rd_T57 x251001_46 x16_6).f2))) (fun _ hk=>hk.2) (.bool true)) (fun _ hk=>⟨hk.1.1.1,hk.1.1.2⟩)⟩,⟨by (with_reducible repeat (first|apply Kd.Q_alloc|apply Kd.Q_drewN|apply Kd.Q_drew));exact qM (Kd.Q_far (p:=⟨Ba,3,none⟩) (Kd.Q_far (p:=⟨Ba,2,none⟩) (Kd.Q_far (p:=⟨Ba,1,none⟩) (Kd.Q_far (p:=⟨Ba,0,none⟩) (Kd.Q_types Bh.out Be.out (by decide)) (fun _ hk=>hk.2) (.int .i64 ((rd_T57 x251001_46 x16_6).f0))) (fun _ hk=>hk.2) (.int .i64 ((rd_T57 x251001_46 x16_6).f1))) (fun _ hk=>hk.2) (.int .i64 ((rd_T57 x251001_46 x16_6).f2))) (fun _ hk=>hk.2) (.bool true)) (fun _ hk=>⟨hk.1.1,hk.1.2⟩)⟩,⟨by (with_reducible repeat (first|apply rA|apply rN|apply rD));exact rM (rF (p:=⟨Ba,3,none⟩) (rF (p:=⟨Ba,2,none⟩) (rF (p:=⟨Ba,1,none⟩) (rF (p:=⟨Ba,0,none⟩) (rM Bm.out (fun k_ hk=>(⟨hk,hk.2⟩:_∧k_≠Ba))) (fun _ hk=>hk.2) (.int .i64 ((rd_T57 x251001_46 x16_6).f0))) (fun _ hk=>hk.2) (.int .i64 ((rd_T57 x251001_46 x16_6).f1))) (fun _ hk=>hk.2) (.int .i64 ((rd_T57 x251001_46 x16_6).f2))) (fun _ hk=>hk.2) (.bool true)) (fun _ hk=>hk.1.1)⟩,⟨by (with_reducible repeat (first|apply Kd.Q_alloc|apply Kd.Q_drewN|apply Kd.Q_drew));exact qM (Kd.Q_far (p:=⟨Ba,3,none⟩) (Kd.Q_far (p:=⟨Ba,2,none⟩) (Kd.Q_far (p:=⟨Ba,1,none⟩) (Kd.Q_far (p:=⟨Ba,0,none⟩) (Kd.Q_types Bn.out Be.out (by decide)) (fun _ hk=>hk.2) (.int .i64 ((rd_T57 x251001_46 x16_6).f0))) (fun _ hk=>hk.2) (.int .i64 ((rd_T57 x251001_46 x16_6).f1))) (fun _ hk=>hk.2) (.int .i64 ((rd_T57 x251001_46 x16_6).f2))) (fun _ hk=>hk.2) (.bool true)) (fun _ hk=>hk.1)⟩,⟨by (with_reducible repeat (first|refine bN ?_ _|refine bD ?_|refine bA ?_ _|refine bE ?_ Bp.out _));exact Bb.out⟩,⟨by (with_reducible repeat (first|refine bN ?_ _|refine bD ?_|refine bA ?_ _|refine bE ?_ Bq.out _));exact Bi.out⟩,⟨by (with_reducible repeat (first|refine bN ?_ _|refine bD ?_|refine bA ?_ _|refine bE ?_ Br.out _));exact Bl.out⟩,⟨by repeat (first|(with_reducible first|exact HB.out|apply oA|apply pN|apply o1|refine bS ?_ Bo.out|refine bS ?_ Bs.out|refine bS ?_ Bt.out|refine bS ?_ BB.out)|exact HB.out)⟩⟩
/-- THE ONE PURE STATEMENT of laws_FnLockWord: yours. -/
def laws_FnLockWord.Pure:Prop:=∀ (l0:List Int) (l1:List Int),l0.length≤maxLen → l0.length * 1≤140737488351232 → (∀ x ∈ l0,(Lit.int .u8 x).wf=true) → l1.length≤maxLen → l1.length * 1≤140737488351232 → (∀ x ∈ l1,(Lit.int .u8 x).wf=true) → ∃ k,laws_FnLockWord.f k l0 l1=some true
theorem laws_FnLockWord.walk (P:laws_FnLockWord.Pure) (a0:Option Addr) (len0 cap0:Nat) (z0:List Int) (a1:Option Addr) (len1 cap1:Nat) (z1:List Int) (w:World) (w0:(a0=none∧len0=0∧cap0=0∧z0=[])∨∃ x,a0=some x∧len0≤cap0∧cap0≤maxLen∧z0.length=cap0∧(∀ i,i<z0.length → w.cell? (x.add i)=some (.int .u8 (z0.getD i 0)))∧∀ n ∈ z0,(Lit.int .u8 n).wf=true) (y0:len0 * 1≤140737488351232) (w1:(a1=none∧len1=0∧cap1=0∧z1=[])∨∃ x,a1=some x∧len1≤cap1∧cap1≤maxLen∧z1.length=cap1∧(∀ i,i<z1.length → w.cell? (x.add i)=some (.int .u8 (z1.getD i 0)))∧∀ n ∈ z1,(Lit.int .u8 n).wf=true) (y1:len1 * 1≤140737488351232) :
  Calls Try.prog 8 #[.slice a0 len0 cap0,.slice a1 len1 cap1] w fun e w'=>e=.returned (.bool true)∧Below w.heap.size w w':=by
 obtain ⟨l0,rfl,hr0,hm0,hw0,hc0⟩:=ReadsInt.ofRowC w0
 obtain ⟨l1,rfl,hr1,hm1,hw1,hc1⟩:=ReadsInt.ofRowC w1
 obtain ⟨k,h⟩:=P l0 l1 hm0 y0 hw0 hm1 y1 hw1
 refine (laws_FnLockWord.calls k _ _ l0 _ _ l1 true w (Kd.C_of_reads (d:=(0:Int)) (h1:=fun _=>rfl) hr0) hc0 (Kd.C_of_reads (d:=(0:Int)) (h1:=fun _=>rfl) hr1) hc1 h ⟨rfl⟩).mono ?_
 rintro e w' ⟨rfl,hd⟩
 exact ⟨rfl,hd⟩

end Go.Proofs.Ytpdfkbggaihfpaa.PFnLockWord
