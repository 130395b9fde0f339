/- Proved here, without a condition beyond those that each theorem states: what the Go functions named below do is what the plain functions of the same names say. Written by xprint.py, a program of this session. -/
import Derived.Test.YtiifanjjohophaaPFnSigsSendx0
import Derived.Test.YtiifanjjohophaaPFnSigsSendx13
namespace Go.Proofs.Ytiifanjjohophaa.PFnSigsSend
open Go.RowKit Go.Proofs.YtiifanjjohophaaW.PrintWords Go.Proofs.YtiifanjjohophaaW.PrintLast Go.Proofs.YtiifanjjohophaaW.PrintMore
attribute [local go_sem] max2_int min2_int max_two min_two max_three min_three max_four min_four   -- for this text's walks alone
set_option linter.unusedVariables false
set_option linter.unusedSimpArgs false

attribute [local go_sem ↓] isSome_setCell_
/-! ### spec_l10Send: function 48 -/
def spec_l10Send.j0 : Nat → Int → Int → Bool → List Bool → List Bool → List Int → Option (List Bool × List Bool × List Int)
|0, _, _, _, _, _, _ => none
|k + 1, x1, x5, x6, x276000, x276001, x276002 => if x6 = true then (if 2 < (x276000.length : Int) then ((some (x276000.set (2 : Int).toNat false : List Bool)).bind fun y277 => ((spec_l10Does.f k y277 x276001 x276002 x1).bind fun t278 => (if t278 = 1 then (if 0 ≤ (wrap64 (x1 - 1)) then (if (wrap64 (x1 - 1)) < (x276001.length : Int) then (if rdOf false x276001 (wrap64 (x1 - 1)) = true then (if (wrap64 (x1 - 1)) < (x276000.length : Int) then (some ((y277.set ((wrap64 (x1 - 1)) : Int).toNat true), x276001, x276002)) else (none)) else (some (y277, x276001, x276002))) else (none)) else (none)) else (if 0 ≤ (wrap64 (x1 - 1)) then (if (wrap64 (x1 - 1)) < (x276000.length : Int) then (some ((y277.set ((wrap64 (x1 - 1)) : Int).toNat true), x276001, x276002)) else (none)) else (none))))) else (none)) else (if x5 = 3 then (if 1 < (x276000.length : Int) then (if 5 < (x276000.length : Int) then ((some ((x276000.set (1 : Int).toNat false).set (5 : Int).toNat false : List Bool)).bind fun y283 => ((spec_l10Does.f k y283 x276001 x276002 x1).bind fun t284 => (if t284 = 1 then (if 0 ≤ (wrap64 (x1 - 1)) then (if (wrap64 (x1 - 1)) < (x276001.length : Int) then (if rdOf false x276001 (wrap64 (x1 - 1)) = true then (if (wrap64 (x1 - 1)) < (x276000.length : Int) then (some ((y283.set ((wrap64 (x1 - 1)) : Int).toNat true), x276001, x276002)) else (none)) else (some (y283, x276001, x276002))) else (none)) else (none)) else (if 0 ≤ (wrap64 (x1 - 1)) then (if (wrap64 (x1 - 1)) < (x276000.length : Int) then (some ((y283.set ((wrap64 (x1 - 1)) : Int).toNat true), x276001, x276002)) else (none)) else (none))))) else (none)) else (none)) else ((spec_l10Does.f k x276000 x276001 x276002 x1).bind fun t288 => (if t288 = 1 then (if 0 ≤ (wrap64 (x1 - 1)) then (if (wrap64 (x1 - 1)) < (x276001.length : Int) then (if rdOf false x276001 (wrap64 (x1 - 1)) = true then (if (wrap64 (x1 - 1)) < (x276000.length : Int) then (some ((x276000.set ((wrap64 (x1 - 1)) : Int).toNat true), x276001, x276002)) else (none)) else (some (x276000, x276001, x276002))) else (none)) else (none)) else (if 0 ≤ (wrap64 (x1 - 1)) then (if (wrap64 (x1 - 1)) < (x276000.length : Int) then (some ((x276000.set ((wrap64 (x1 - 1)) : Int).toNat true), x276001, x276002)) else (none)) else (none)))))
def spec_l10Send.f (k : Nat) (l0_0 : List Bool) (l0_1 : List Bool) (l0_2 : List Int) (a1 : Int) : Option (List Bool × List Bool × List Int) := if a1 = 2 then (spec_l10Send.j0 k a1 a1 (a1 == 2) l0_0 l0_1 l0_2) else (spec_l10Send.j0 k a1 a1 (a1 == 6) l0_0 l0_1 l0_2)
theorem spec_l10Send.mono_l : ∀ k, (∀ y0 y1 y2 y3 y4 y5, LeO (spec_l10Send.j0 k y0 y1 y2 y3 y4 y5) (spec_l10Send.j0 (k + 1) y0 y1 y2 y3 y4 y5))
|0 => fun _ _ _ _ _ _ r h => by simp [spec_l10Send.j0] at h
|k + 1 => by
  have ih0 := spec_l10Send.mono_l k
  ·intro y0 y1 y2 y3 y4 y5
   unfold spec_l10Send.j0
   repeat' first
  |(with_reducible exact ih0 _ _ _ _ _ _)
  |(with_reducible exact spec_l10Does.mono _ _ _ _ _)
  |(with_reducible exact LeO.refl _)
  |(with_reducible exact LeO.none _)
  |(with_reducible refine LeO.ite ?_ ?_)
  |(with_reducible refine LeO.bind ?_ (fun _ => ?_))
  |exact ih0 _ _ _ _ _ _
  |exact spec_l10Does.mono _ _ _ _ _
  |exact LeO.none _
  |refine LeO.ite ?_ ?_
  |refine LeO.bind ?_ (fun _ => ?_)
theorem spec_l10Send.mono : ∀ a0 a1 a2 a3 k, LeO (spec_l10Send.f k a0 a1 a2 a3) (spec_l10Send.f (k + 1) a0 a1 a2 a3) := by
 intro a0 a1 a2 a3 k
 have ih0 := spec_l10Send.mono_l k
 unfold spec_l10Send.f
 repeat' first
  |(with_reducible exact ih0 _ _ _ _ _ _)
  |(with_reducible exact spec_l10Does.mono _ _ _ _ _)
  |(with_reducible exact LeO.refl _)
  |(with_reducible exact LeO.none _)
  |(with_reducible refine LeO.ite ?_ ?_)
  |(with_reducible refine LeO.bind ?_ (fun _ => ?_))
  |exact ih0 _ _ _ _ _ _
  |exact spec_l10Does.mono _ _ _ _ _
  |exact LeO.none _
  |refine LeO.ite ?_ ?_
  |refine LeO.bind ?_ (fun _ => ?_)
set_option maxHeartbeats 2000000 in
set_option maxRecDepth 100000 in
theorem spec_l10Send.calls (k:Nat) (P0_0_:Nat → Prop) (u9000_:Value) (l0_0:List Bool) (P0_1_:Nat → Prop) (u9001_:Value) (l0_1:List Bool) (P0_2_:Nat → Prop) (u9002_:Value) (l0_2:List Int) (a1:Int) (r1:List Bool) (r2:List Bool) (r3:List Int) (w0 w:World) (hB:Below w0.heap.size w0 w) (ho0_0:Kd.R Kd.bool 4 w w0.heap.size P0_0_ u9000_ l0_0) (hp0_0_0_1:∀ k_,P0_0_ k_ → ¬ P0_1_ k_) (ho0_1:Kd.R Kd.bool 4 w w0.heap.size P0_1_ u9001_ l0_1) (hp0_1_0_0:∀ k_,P0_1_ k_ → ¬ P0_0_ k_) (ho0_2:Kd.R (Kd.int .i64) 3 w w0.heap.size P0_2_ u9002_ l0_2) (h:spec_l10Send.f k l0_0 l0_1 l0_2 a1=some (r1,r2,r3)) :
  Calls Try.prog 48 #[.agg #[u9000_,u9001_,u9002_],.int .i64 a1] w fun e w'=>∃ v0_ v1_ v2_:Value,e=.returned (.agg #[v0_,v1_,v2_])∧Kd.R Kd.bool 4 w' w0.heap.size (fun k_=>((P0_0_ k_∨P0_1_ k_∨P0_2_ k_)∨w.heap.size≤k_)∧some k_≠(v1_:Value).ownBlock) v0_ r1∧Kd.R Kd.bool 4 w' w0.heap.size (fun k_=>((P0_0_ k_∨P0_1_ k_∨P0_2_ k_)∨w.heap.size≤k_)∧some k_≠(v0_:Value).ownBlock) v1_ r2∧Kd.R (Kd.int .i64) 3 w' w0.heap.size (fun k_=>((P0_0_ k_∨P0_1_ k_∨P0_2_ k_)∨w.heap.size≤k_)) v2_ r3∧Below w0.heap.size w0 w'∧Kept w w' (fun k_=>P0_0_ k_∨P0_1_ k_∨P0_2_ k_):=by
 have hu26:=Try.underlying26
 have Bn:=Am (show Kd.R Kd.bool 4 w w0.heap.size (fun k_=>((P0_0_ k_∨P0_1_ k_∨P0_2_ k_)∨w.heap.size≤k_)∧some k_≠(u9001_:Value).ownBlock) u9000_ l0_0 from rM ho0_0 (fun k_ hk=>⟨(.inl (.inl hk)),fun e_=>hp0_0_0_1 k_ hk (ho0_1.1 k_ e_.symm)⟩))
 have Bo:=Am (show Kd.R Kd.bool 4 w w0.heap.size (fun k_=>((P0_0_ k_∨P0_1_ k_∨P0_2_ k_)∨w.heap.size≤k_)∧some k_≠(u9000_:Value).ownBlock) u9001_ l0_1 from rM ho0_1 (fun k_ hk=>⟨(.inl (.inr (.inl hk))),fun e_=>hp0_1_0_0 k_ hk (ho0_0.1 k_ e_.symm)⟩))
 have Bp:=Am (show Kd.R (Kd.int .i64) 3 w w0.heap.size (fun k_=>((P0_0_ k_∨P0_1_ k_∨P0_2_ k_)∨w.heap.size≤k_)) u9002_ l0_2 from rM ho0_2 (fun k_ hk=>(.inl (.inr (.inr hk)))))
 have HK:=Am (Kept.refl w (fun k_=>P0_0_ k_∨P0_1_ k_∨P0_2_ k_))
 have HW0:=Am hB.size
 have HB:=Am hB
 clear hB
 have H:(if a1=2 then (spec_l10Send.j0 k a1 a1 (a1 == 2) l0_0 l0_1 l0_2) else (spec_l10Send.j0 k a1 a1 (a1 == 6) l0_0 l0_1 l0_2))=some (r1,r2,r3):=h
 clear h
 have HC3:=Am H
 clear H
 obtain ⟨Ao4,co4,eo4⟩:=Kd.R_slice Bn.out
 subst eo4
 obtain ⟨Ao5,co5,eo5⟩:=Kd.R_slice Bo.out
 subst eo5
 obtain ⟨Ao6,co6,eo6⟩:=Kd.R_slice Bp.out
 subst eo6
 go_enter Try.func48,Try.ntmps48
 go_upto_if 6 with (first|((with_reducible refine gate_dst (N:=2) rfl ?_);refine box_event ?hg (N:=2) ?hd (cs:=#[.slice Ao4 l0_0.length co4,.slice Ao5 l0_1.length co5,.slice Ao6 l0_2.length co6]) (t:=26) ?hr ?_;(case hd=>rfl);(case hg=>rfl);(case hr=>first|(go_simp;done)|(go_simp;rfl));intro Bg hg w7 hbox hb;have n0_:=Am (rB (rL Bn.out) hb);have n1_:=Am (rB (rL Bo.out) hb);have n2_:=Am (rB (rL Bp.out) hb);have n3_:=Am (Kept.below (S:=(fun k_=>P0_0_ k_∨P0_1_ k_∨P0_2_ k_)) (by repeat (first|(with_reducible first|exact HK.out|apply Kept.alloc|apply Kept.drewN|apply Kept.drew)|exact HK.out)) hb);have n4_:=Am (bP (by repeat (first|(with_reducible first|exact HB.out|apply oA|apply pN|apply o1)|exact HB.out)) hb);have n5_:=Am (hbox);have n6_:=Am ((by rw [hg];exact (by first|exact HK.out.1|exact (show Kept w _ (fun k_=>P0_0_ k_∨P0_1_ k_∨P0_2_ k_) from by repeat (first|(with_reducible first|exact HK.out|apply Kept.alloc|apply Kept.drewN|apply Kept.drew)|exact HK.out)).1):w.heap.size≤Bg));have n7_:=Am ((by rw [hg];exact (bZ (by repeat (first|(with_reducible first|exact HB.out|apply oA|apply pN|apply o1)|exact HB.out))):w0.heap.size≤Bg));clear Bn Bo Bp HK HB;revert n0_ n1_ n2_ n3_ n4_ n5_ n6_ n7_;intro Bn Bo Bp HK HB Bb Bh Bj;clear hb hbox hg)|((with_reducible refine gate_dst (N:=4) rfl ?_);refine box_event ?hg (N:=4) ?hd (cs:=#[.slice none 0 0,.slice none 0 0,.slice none 0 0]) (t:=26) ?hr ?_;(case hd=>rfl);(case hg=>rfl);(case hr=>first|(go_simp;done)|(go_simp;rfl));intro Bf hg w8 hbox hb;have n0_:=Am (rB (rL Bn.out) hb);have n1_:=Am (rB (rL Bo.out) hb);have n2_:=Am (rB (rL Bp.out) hb);have n3_:=Am (bX Bb.out hb);have n4_:=Am (Kept.below (S:=(fun k_=>P0_0_ k_∨P0_1_ k_∨P0_2_ k_)) (by repeat (first|(with_reducible first|exact HK.out|apply Kept.alloc|apply Kept.drewN|apply Kept.drew|refine Kept.setCell ?_ (.inr Bh.out) _)|exact HK.out)) hb);have n5_:=Am (bP (by repeat (first|(with_reducible first|exact HB.out|apply oA|apply pN|apply o1|refine bS ?_ Bj.out)|exact HB.out)) hb);have n6_:=Am (hbox);have n7_:=Am ((by rw [hg];exact (by first|exact HK.out.1|exact (show Kept w _ (fun k_=>P0_0_ k_∨P0_1_ k_∨P0_2_ k_) from by repeat (first|(with_reducible first|exact HK.out|apply Kept.alloc|apply Kept.drewN|apply Kept.drew|refine Kept.setCell ?_ (.inr Bh.out) _)|exact HK.out)).1):w.heap.size≤Bf));have n8_:=Am ((by rw [hg];exact (bZ (by repeat (first|(with_reducible first|exact HB.out|apply oA|apply pN|apply o1|refine bS ?_ Bj.out)|exact HB.out))):w0.heap.size≤Bf));have n9_:=Am ((nL Bb.out hg));have n10_:=Am ((nG Bb.out hg));clear Bn Bo Bp Bb HK HB;revert n0_ n1_ n2_ n3_ n4_ n5_ n6_ n7_ n8_ n9_ n10_;intro Bn Bo Bp Bb HK HB Bd Bi Bk Bl Bm;clear hb hbox hg))
 (try simp only [Act.put,lA,lZ,lS])
 go_cut [6] (fun v6 wc=>∃ (kq:Nat) (x6_2:Bool),v6=.bool x6_2∧Aside0 (spec_l10Send.j0 kq a1 a1 x6_2 l0_0 l0_1 l0_2=some (r1,r2,r3))∧Aside0 (kq≤k)∧Aside0 (Kd.R Kd.bool 4 wc w0.heap.size (fun k_=>((P0_0_ k_∨P0_1_ k_∨P0_2_ k_)∨w.heap.size≤k_)∧some k_≠((.slice Ao5 l0_1.length co5):Value).ownBlock) (.slice Ao4 l0_0.length co4) l0_0)∧Aside0 (Kd.R Kd.bool 4 wc w0.heap.size (fun k_=>((P0_0_ k_∨P0_1_ k_∨P0_2_ k_)∨w.heap.size≤k_)∧some k_≠((.slice Ao4 l0_0.length co4):Value).ownBlock) (.slice Ao5 l0_1.length co5) l0_1)∧Aside0 (Kd.R (Kd.int .i64) 3 wc w0.heap.size (fun k_=>((P0_0_ k_∨P0_1_ k_∨P0_2_ k_)∨w.heap.size≤k_)) (.slice Ao6 l0_2.length co6) l0_2)∧Aside0 (wc.heap[Bg]?=some (.cells #[(.slice Ao4 l0_0.length co4),(.slice Ao5 l0_1.length co5),(.slice Ao6 l0_2.length co6)] 26 (0,0)))∧Aside0 (wc.heap[Bf]?=some (.cells #[(.slice none 0 0),(.slice none 0 0),(.slice none 0 0)] 26 (0,0)))∧Aside0 (Kept w wc (fun k_=>P0_0_ k_∨P0_1_ k_∨P0_2_ k_))∧Aside0 (Below w0.heap.size w0 wc))
 case first =>
  have H:=HC3.out
  clear HC3
  by_cases c9:a1=2
  rotate_left
  ·rw [if_neg c9] at H
   have c9b0:(a1 == 2)=false:=beq_eq_false_iff_ne.mpr c9
   have c9b1:(a1 != 2)=true:=bne_iff_ne.mpr c9
   (first|rw [c9b0]|(simp only [i64_w,i32_w];rw [c9b0])|skip)
   have H':=Am H
   clear H
   go_wp2
   go_meet
   case rel=>exact ⟨_,((a1 == 6)),(by first|rfl|(simp;done)|(simp [*];done)),H',⟨by first|omega|exact Nat.le_refl _⟩,⟨by (with_reducible repeat (first|apply rA|apply rN|apply rD));exact Bn.out⟩,⟨by (with_reducible repeat (first|apply rA|apply rN|apply rD));exact Bo.out⟩,⟨by (with_reducible repeat (first|apply rA|apply rN|apply rD));exact Bp.out⟩,⟨by (with_reducible repeat (first|refine bN ?_ _|refine bD ?_|refine bA ?_ _));exact Bb.out⟩,⟨by (with_reducible repeat (first|refine bN ?_ _|refine bD ?_|refine bA ?_ _));exact Bd.out⟩,⟨by repeat (first|(with_reducible first|exact HK.out|apply Kept.alloc|apply Kept.drewN|apply Kept.drew|refine Kept.setCell ?_ (.inr Bh.out) _|refine Kept.setCell ?_ (.inr Bi.out) _)|exact HK.out)⟩,⟨by repeat (first|(with_reducible first|exact HB.out|apply oA|apply pN|apply o1|refine bS ?_ Bj.out|refine bS ?_ Bk.out)|exact HB.out)⟩⟩
  rw [if_pos c9] at H
  have c9b0:(a1 == 2)=true:=beq_iff_eq.mpr c9
  have c9b1:(a1 != 2)=false:=bne_eq_false_iff_eq.mpr c9
  clear c9
  (first|rw [c9b0]|(simp only [i64_w,i32_w];rw [c9b0])|skip)
  have H':=Am H
  clear H
  go_wp2
  go_meet
  case rel=>exact ⟨_,((a1 == 2)),(by first|rfl|(simp;done)|(simp [*];done)),H',⟨by first|omega|exact Nat.le_refl _⟩,⟨by (with_reducible repeat (first|apply rA|apply rN|apply rD));exact Bn.out⟩,⟨by (with_reducible repeat (first|apply rA|apply rN|apply rD));exact Bo.out⟩,⟨by (with_reducible repeat (first|apply rA|apply rN|apply rD));exact Bp.out⟩,⟨by (with_reducible repeat (first|refine bN ?_ _|refine bD ?_|refine bA ?_ _));exact Bb.out⟩,⟨by (with_reducible repeat (first|refine bN ?_ _|refine bD ?_|refine bA ?_ _));exact Bd.out⟩,⟨by repeat (first|(with_reducible first|exact HK.out|apply Kept.alloc|apply Kept.drewN|apply Kept.drew|refine Kept.setCell ?_ (.inr Bh.out) _|refine Kept.setCell ?_ (.inr Bi.out) _)|exact HK.out)⟩,⟨by repeat (first|(with_reducible first|exact HB.out|apply oA|apply pN|apply o1|refine bS ?_ Bj.out|refine bS ?_ Bk.out)|exact HB.out)⟩⟩
 case rest =>
  clear HC3
  try clear p2
  try clear c4
  try clear c9
  try clear c9b0
  try clear c9b1
  obtain ⟨kq,x6_2,rfl,HA,JR,Ba,Bc,Be,Bb,Bd,HK,HB⟩:=hcut
  cases kq with
 |zero=>exact absurd HA.out (by simp [spec_l10Send.j0])
 |succ kj2 =>
   have H:=HA.out
   clear HA
   simp only [spec_l10Send.j0] at H
   by_cases c10:x6_2=true
   ·subst c10
    have H1:(if 2<(l0_0.length:Int) then ((some (l0_0.set (2:Int).toNat false:List Bool)).bind fun y277=>((spec_l10Does.f kj2 y277 l0_1 l0_2 a1).bind fun t278=>(if t278=1 then (if 0≤(wrap64 (a1 - 1)) then (if (wrap64 (a1 - 1))<(l0_1.length:Int) then (if rdOf false l0_1 (wrap64 (a1 - 1))=true then (if (wrap64 (a1 - 1))<(l0_0.length:Int) then (some ((y277.set ((wrap64 (a1 - 1)):Int).toNat true),l0_1,l0_2)) else (none)) else (some (y277,l0_1,l0_2))) else (none)) else (none)) else (if 0≤(wrap64 (a1 - 1)) then (if (wrap64 (a1 - 1))<(l0_0.length:Int) then (some ((y277.set ((wrap64 (a1 - 1)):Int).toNat true),l0_1,l0_2)) else (none)) else (none))))) else (none))=some (r1,r2,r3):=by rw [if_pos rfl] at H;exact H
    clear H
    have H:=H1
    clear H1
    by_cases c11:2<(l0_0.length:Int)
    rotate_left
    ·rw [if_neg c11] at H
     exact absurd H (by simp)
    rw [if_pos c11] at H
    have c11b0:decide (2<(l0_0.length:Int))=true:=decide_eq_true c11
    have c11b1:decide (2<l0_0.length)=true:=decide_eq_true (by omega)
    clear c11
    obtain ⟨y277,hy277⟩:∃ y_:List Bool,y_=(l0_0.set (2:Int).toNat false):=⟨_,rfl⟩
    replace H:((spec_l10Does.f kj2 y277 l0_1 l0_2 a1).bind fun t278=>(if t278=1 then (if 0≤(wrap64 (a1 - 1)) then (if (wrap64 (a1 - 1))<(l0_1.length:Int) then (if rdOf false l0_1 (wrap64 (a1 - 1))=true then (if (wrap64 (a1 - 1))<(l0_0.length:Int) then (some ((y277.set ((wrap64 (a1 - 1)):Int).toNat true),l0_1,l0_2)) else (none)) else (some (y277,l0_1,l0_2))) else (none)) else (none)) else (if 0≤(wrap64 (a1 - 1)) then (if (wrap64 (a1 - 1))<(l0_0.length:Int) then (some ((y277.set ((wrap64 (a1 - 1)):Int).toNat true),l0_1,l0_2)) else (none)) else (none))))=some (r1,r2,r3):=by first|(rw [hy277];with_reducible exact H)|(have H2_:=(Option.bind_some _ _).symm.trans H;rw [hy277];with_reducible exact H2_)|(have H2_:=(Option.bind_some _ _).symm.trans H;with_reducible exact H2_)|with_reducible exact H|(rw [hy277];exact H)|exact H
    have Ny277:=Am hy277
    clear hy277
    replace H:=oC H
    obtain ⟨t278,A130,H⟩:=H
    replace H:(if t278=1 then (if 0≤(wrap64 (a1 - 1)) then (if (wrap64 (a1 - 1))<(l0_1.length:Int) then (if rdOf false l0_1 (wrap64 (a1 - 1))=true then (if (wrap64 (a1 - 1))<(l0_0.length:Int) then (some ((y277.set ((wrap64 (a1 - 1)):Int).toNat true),l0_1,l0_2)) else (none)) else (some (y277,l0_1,l0_2))) else (none)) else (none)) else (if 0≤(wrap64 (a1 - 1)) then (if (wrap64 (a1 - 1))<(l0_0.length:Int) then (some ((y277.set ((wrap64 (a1 - 1)):Int).toNat true),l0_1,l0_2)) else (none)) else (none)))=some (r1,r2,r3):=H
    have A13:=Am A130
    clear A130
    by_cases c14:t278=1
    rotate_left
    ·rw [if_neg c14] at H
     have c14b0:(t278 == 1)=false:=beq_eq_false_iff_ne.mpr c14
     have c14b1:(t278 != 1)=true:=bne_iff_ne.mpr c14
     obtain ⟨ji41,hji41⟩:∃ j_:Int,(wrap64 (a1 - 1))=j_:=⟨_,rfl⟩
     replace H:(if 0≤(ji41) then (if (ji41)<(l0_0.length:Int) then (some ((y277.set ((ji41):Int).toNat true),l0_1,l0_2)) else (none)) else (none))=some (r1,r2,r3):=by first|(rw [hji41] at H;exact H)|(simp only [hji41] at H ⊢;exact H)
     (try rw [hji41] at A13)
     have hji41w:(IntKind.i64.wrap (a1 - 1))=ji41:=(i64_w _).trans hji41
     by_cases c42:0≤(ji41)
     rotate_left
     ·rw [if_neg c42] at H
      exact absurd H (by simp)
     rw [if_pos c42] at H
     have c42b0:decide (0≤(ji41))=true:=decide_eq_true c42
     clear c42
     by_cases c43:(ji41)<(l0_0.length:Int)
     rotate_left
     ·rw [if_neg c43] at H
      exact absurd H (by simp)
     rw [if_pos c43] at H
     have c43b0:decide ((ji41)<(l0_0.length:Int))=true:=decide_eq_true c43
     clear c43
     obtain ⟨y281,hy281⟩:∃ y_:List Bool,y_=(y277.set ((ji41):Int).toNat true):=⟨_,rfl⟩
     replace H:(some (y281,l0_1,l0_2))=some (r1,r2,r3):=by first|(rw [hy281];with_reducible exact H)|(have H2_:=(Option.bind_some _ _).symm.trans H;rw [hy281];with_reducible exact H2_)|(have H2_:=(Option.bind_some _ _).symm.trans H;with_reducible exact H2_)|with_reducible exact H|(rw [hy281];exact H)|exact H
     have Ny281:=Am hy281
     clear hy281
     simp only [Option.some.injEq,Prod.mk.injEq] at H
     obtain ⟨rfl,rfl,rfl⟩:=H
     have JJ:=Bl.out
     have JK:=Bm.out
     have F0:=cz0 Bb.out
     have F1:=cz1 Bb.out
     have F2:=cz2 Bb.out
     have F3:=bF Bb.out 0
     have F4:=bF Bb.out 1
     have F5:=bF Bb.out 2
     have p12:0≤(2:Int):=(by omega)
     have q12:(2:Int)<((l0_0.length:Int):Int):=of_decide_eq_true (by first|(with_reducible assumption)|assumption)
     have qi12:(2<l0_0.length)=True:=eq_true (by omega)
     obtain ⟨go12,co12,eo12,Bq,gl12,cl12,HG12⟩:=Kd.R_form Ba.out (by omega)
     (first|cases eo12|(injection eo12 with ea_ en_ ec_;(first|subst ea_|(injection ea_ with ea_;subst ea_));subst ec_;clear en_))
     have GB12:=Am Bq
     have GG12:=Am HG12
     clear Bq gl12 HG12
     have HMgo12:=Am (show ((P0_0_ go12∨P0_1_ go12∨P0_2_ go12)∨w.heap.size≤go12) from (Ba.out.1 _ rfl).1)
     obtain ⟨hx12_0,hf12_0⟩:=Kd.R_celln false Ba.out (2:Int) p12 q12
     (try rw [show ((2:Int)).toNat=2 from rfl] at hx12_0)
     (try simp only [Nat.reduceMul,Nat.zero_mul,Nat.zero_add,Nat.reduceAdd] at hx12_0)
     (try rw [show ((2:Int)).toNat=2 from rfl] at hf12_0)
     (try simp only [Nat.reduceMul,Nat.zero_mul,Nat.zero_add,Nat.reduceAdd] at hf12_0)
     replace p12:=eq_true p12
     replace q12:=eq_true q12
     have HP47:=Kd.R_putg Ba.out (2:Int) false
     go_wp2_with (first|((with_reducible refine gate_store (t:=4) (p:=11) rfl ?_);refine store_event (t:=4) (p:=11) (v:=?vo_w48) (w1:=(wc.setCell ⟨go12,(2:Int).toNat,none⟩ (.bool false))) ?hg ?ho ?hn ?hr ?_;(case ho=>rfl);(case hg=>rfl);(case hn=>rfl);(case hr=>first|(go_simp;done)|(go_simp;rfl));intro w48 hw;have hg:wc.grownBy w48 (some go12):=(by rw [hw];exact HP47.2);have hp_:Kd.R Kd.bool 4 w48 w0.heap.size (fun k_=>((P0_0_ k_∨P0_1_ k_∨P0_2_ k_)∨w.heap.size≤k_)∧some k_≠(.slice Ao5 l0_1.length co5:Value).ownBlock) (.slice (some ⟨go12,0,none⟩) l0_0.length co4) y277:=(by rw [hw,Ny277.out];exact HP47.1);clear HP47;have n0_:=Am (hp_);have n1_:=Am (Kd.R_after (v:=(.slice (some ⟨go12,0,none⟩) l0_0.length co4)) (v1:=(.slice (some ⟨go12,0,none⟩) l0_0.length co4)) (ok:=(fun k_=>((P0_0_ k_∨P0_1_ k_∨P0_2_ k_)∨w.heap.size≤k_))) (rL Bc.out) hg (.inl rfl));have n2_:=Am (Kd.R_over' (v:=(.slice (some ⟨go12,0,none⟩) l0_0.length co4)) (rL Be.out) (Kd.R_typed Ba.out) (by decide) hg);have n3_:=Am (blk_grown (g:=Bg) (o:=.cells #[.slice (some ⟨go12,0,none⟩) l0_0.length co4,.slice Ao5 l0_1.length co5,.slice Ao6 l0_2.length co6] 26 (0,0)) (bL Bb.out) hg (Kd.R_ne Ba.out Bb.out (by decide)));have n4_:=Am (blk_grown (g:=Bf) (o:=.cells #[.slice none 0 0,.slice none 0 0,.slice none 0 0] 26 (0,0)) (bL Bd.out) hg (Kd.R_ne Ba.out Bd.out (by decide)));have n5_:=Am ((by rw [hw];exact bS (HB.out) GB12.out:Below w0.heap.size w0 w48));have n6_:=Am (Kept.of_grown (S:=(fun k_=>P0_0_ k_∨P0_1_ k_∨P0_2_ k_)) hg (by repeat (first|(with_reducible first|exact HK.out|apply Kept.alloc|apply Kept.drewN|apply Kept.drew|refine Kept.setCell ?_ (.inr Bh.out) _|refine Kept.setCell ?_ (.inr Bi.out) _)|exact HK.out)) (fun k_ e_=>(Ba.out.1 k_ e_).1));clear Ba Bc Be Bb Bd HB HK;revert n0_ n1_ n2_ n3_ n4_ n5_ n6_;intro Ba Bc Be Bb Bd HB HK;clear hg hw hp_;have F6:=cz0 Bb.out;have F7:=cz1 Bb.out;have F8:=cz2 Bb.out;have F9:=bF Bb.out 0;have Ga:=bF Bb.out 1;have Gb:=bF Bb.out 2)|((with_reducible refine gate_callee (f:=50) rfl ?_);refine goesL_ (some 22) rfl rfl Try.func50 (by kernel_rfl) rfl #[.agg #[.slice (some ⟨go12,0,none⟩) y277.length co4,.slice Ao5 l0_1.length co5,.slice Ao6 l0_2.length co6],.int .i64 a1] rfl (by (try simp only [lM,lC,lN]);first|done|(rw [show y277.length=l0_0.length from (Kd.R_reads' Ba.out).1.symm] <;> rfl)|rfl|(simp only [lD,lT];rfl)) ?_;(with_reducible refine (spec_l10Does.calls kj2 _ _ y277 _ _ l0_1 _ _ l0_2 a1 t278 _ ?side1 ?side2 ?side3 ?side4 ?side5 ?side6 A13.out).mono ?_);(case side1=>exact cL (Kd.R_reads' Ba.out).2.2);(case side2=>rw [show y277.length=l0_0.length from (Kd.R_reads' Ba.out).1.symm];exact (Kd.R_reads' Ba.out).2.1);(case side3=>exact cL (Kd.R_reads' Bc.out).2.2);(case side4=>exact (Kd.R_reads' Bc.out).2.1);(case side5=>exact cL (Kd.R_reads' Be.out).2.2);(case side6=>exact (Kd.R_reads' Be.out).2.1);rintro e w50 ⟨rfl,hb⟩;refine ⟨_,rfl,?_⟩;have n0_:=Am (rB (rL Ba.out) hb);have n1_:=Am (rB (rL Bc.out) hb);have n2_:=Am (rB (rL Be.out) hb);have n3_:=Am (bX Bb.out hb);have n4_:=Am (bX Bd.out hb);have n5_:=Am (Kept.below (S:=(fun k_=>P0_0_ k_∨P0_1_ k_∨P0_2_ k_)) (by repeat (first|(with_reducible first|exact HK.out|apply Kept.alloc|apply Kept.drewN|apply Kept.drew|refine Kept.setCell ?_ (.inr Bh.out) _|refine Kept.setCell ?_ (.inr Bi.out) _)|exact HK.out)) hb);have n6_:=Am (bP (by repeat (first|(with_reducible first|exact HB.out|apply oA|apply pN|apply o1|refine bS ?_ Bj.out|refine bS ?_ Bk.out)|exact HB.out)) hb);clear Ba Bc Be Bb Bd HK HB;revert n0_ n1_ n2_ n3_ n4_ n5_ n6_;intro Ba Bc Be Bb Bd HK HB;(try clear hb);(try clear hb2);(try clear hk);(try clear hi);have Gc:=cz0 Bb.out;have Gd:=cz1 Bb.out;have Ge:=cz2 Bb.out;have Gf:=bF Bb.out 0;have Gg:=bF Bb.out 1;have Gh:=bF Bb.out 2;have p44:0≤((ji41):Int):=of_decide_eq_true (by first|(with_reducible assumption)|assumption);have q44:((ji41):Int)<((l0_0.length:Int):Int):=of_decide_eq_true (by first|(with_reducible assumption)|assumption);obtain ⟨hx44_0,hf44_0⟩:=Kd.R_celln false Ba.out ((ji41):Int) p44 q44;replace p44:=eq_true p44;replace q44:=eq_true q44;obtain ⟨hy52_,hz52_⟩:=Kd.R_celln false Ba.out ((ji41):Int) (of_decide_eq_true (by first|(with_reducible assumption)|assumption)) (of_decide_eq_true (by first|(with_reducible assumption)|assumption));have HP52:=Kd.R_putg Ba.out ((ji41):Int) true)|((with_reducible refine gate_store (t:=4) (p:=36) rfl ?_);refine store_event (t:=4) (p:=36) (v:=?vo_w53) (w1:=(w50.setCell ⟨go12,((ji41):Int).toNat,none⟩ (.bool true))) ?hg ?ho ?hn ?hr ?_;(case ho=>rfl);(case hg=>rfl);(case hn=>rfl);(case hr=>first|(go_simp;done)|(go_simp;rfl));intro w53 hw;have hg:w50.grownBy w53 (some go12):=(by rw [hw];exact HP52.2);have hp_:Kd.R Kd.bool 4 w53 w0.heap.size (fun k_=>((P0_0_ k_∨P0_1_ k_∨P0_2_ k_)∨w.heap.size≤k_)∧some k_≠(.slice Ao5 l0_1.length co5:Value).ownBlock) (.slice (some ⟨go12,0,none⟩) l0_0.length co4) y281:=(by rw [hw,Ny281.out];exact HP52.1);clear HP52;have n0_:=Am (hp_);have n1_:=Am (Kd.R_after (v:=(.slice (some ⟨go12,0,none⟩) l0_0.length co4)) (v1:=(.slice (some ⟨go12,0,none⟩) l0_0.length co4)) (ok:=(fun k_=>((P0_0_ k_∨P0_1_ k_∨P0_2_ k_)∨w.heap.size≤k_))) (rL Bc.out) hg (.inl rfl));have n2_:=Am (Kd.R_over' (v:=(.slice (some ⟨go12,0,none⟩) l0_0.length co4)) (rL Be.out) (Kd.R_typed Ba.out) (by decide) hg);have n3_:=Am (blk_grown (g:=Bg) (o:=.cells #[.slice (some ⟨go12,0,none⟩) l0_0.length co4,.slice Ao5 l0_1.length co5,.slice Ao6 l0_2.length co6] 26 (0,0)) (bL Bb.out) hg (Kd.R_ne Ba.out Bb.out (by decide)));have n4_:=Am (blk_grown (g:=Bf) (o:=.cells #[.slice none 0 0,.slice none 0 0,.slice none 0 0] 26 (0,0)) (bL Bd.out) hg (Kd.R_ne Ba.out Bd.out (by decide)));have n5_:=Am ((by rw [hw];exact bS (HB.out) GB12.out:Below w0.heap.size w0 w53));have n6_:=Am (Kept.of_grown (S:=(fun k_=>P0_0_ k_∨P0_1_ k_∨P0_2_ k_)) hg (by repeat (first|(with_reducible first|exact HK.out|apply Kept.alloc|apply Kept.drewN|apply Kept.drew|refine Kept.setCell ?_ (.inr Bh.out) _|refine Kept.setCell ?_ (.inr Bi.out) _)|exact HK.out)) (fun k_ e_=>(Ba.out.1 k_ e_).1));clear Ba Bc Be Bb Bd HB HK;revert n0_ n1_ n2_ n3_ n4_ n5_ n6_;intro Ba Bc Be Bb Bd HB HK;clear hg hw hp_;have Gi:=cz0 Bb.out;have Gj:=cz1 Bb.out;have Gk:=cz2 Bb.out;have Gl:=bF Bb.out 0;have Gm:=bF Bb.out 1;have Gn:=bF Bb.out 2;have Gp:=cz0 Bd.out;have Gq:=cz1 Bd.out;have Gr:=cz2 Bd.out;have Gs:=bF Bd.out 0;have Gt:=bF Bd.out 1;have Gu:=bF Bd.out 2))
     refine bodyPost_ret (results_cell_row rfl _ _ Bf 26 #[.slice (some ⟨go12,0,none⟩) l0_0.length co4,.slice Ao5 l0_1.length co5,.slice Ao6 l0_2.length co6] (0,0) _ rfl (by (with_reducible repeat (first|refine bN ?_ _|refine bD ?_|refine bA ?_ _));refine blk_put (cs:=#[.slice (some ⟨go12,0,none⟩) l0_0.length co4,.slice Ao5 l0_1.length co5,.slice none 0 0]) ?_ 2 _ rfl;(with_reducible repeat (first|refine bN ?_ _|refine bD ?_|refine bA ?_ _));refine blk_put (cs:=#[.slice (some ⟨go12,0,none⟩) l0_0.length co4,.slice none 0 0,.slice none 0 0]) ?_ 1 _ rfl;(with_reducible repeat (first|refine bN ?_ _|refine bD ?_|refine bA ?_ _));refine blk_put (cs:=#[.slice none 0 0,.slice none 0 0,.slice none 0 0]) ?_ 0 _ rfl;(with_reducible repeat (first|refine bN ?_ _|refine bD ?_|refine bA ?_ _));exact Bd.out) Try.underlying26 rfl (by kernel_rfl)) rfl ?_
     exact ⟨_,_,_,by first|rfl|(simp [errW_none,errW_some] <;> rfl)|(simp only [← hji41];first|rfl|(simp [errW_none,errW_some] <;> rfl))|(simp [*,errW_none,errW_some] <;> rfl),by (with_reducible repeat (first|apply rA|apply rN|apply rD));exact rM (rF (p:=⟨Bf,2,none⟩) (rF (p:=⟨Bf,1,none⟩) (rF (p:=⟨Bf,0,none⟩) (rT Ba.out Bd.out (by decide)) (fun _ hk=>hk.2) (.slice (some ⟨go12,0,none⟩) l0_0.length co4)) (fun _ hk=>hk.2) (.slice Ao5 l0_1.length co5)) (fun _ hk=>hk.2) (.slice Ao6 l0_2.length co6)) (fun _ hk=>⟨hk.1.1,hk.1.2⟩),by (with_reducible repeat (first|apply rA|apply rN|apply rD));exact rM (rF (p:=⟨Bf,2,none⟩) (rF (p:=⟨Bf,1,none⟩) (rF (p:=⟨Bf,0,none⟩) (rT Bc.out Bd.out (by decide)) (fun _ hk=>hk.2) (.slice (some ⟨go12,0,none⟩) l0_0.length co4)) (fun _ hk=>hk.2) (.slice Ao5 l0_1.length co5)) (fun _ hk=>hk.2) (.slice Ao6 l0_2.length co6)) (fun _ hk=>⟨hk.1.1,hk.1.2⟩),by (with_reducible repeat (first|apply rA|apply rN|apply rD));exact rM (rF (p:=⟨Bf,2,none⟩) (rF (p:=⟨Bf,1,none⟩) (rF (p:=⟨Bf,0,none⟩) (rT Be.out Bd.out (by decide)) (fun _ hk=>hk.2) (.slice (some ⟨go12,0,none⟩) l0_0.length co4)) (fun _ hk=>hk.2) (.slice Ao5 l0_1.length co5)) (fun _ hk=>hk.2) (.slice Ao6 l0_2.length co6)) (fun _ hk=>hk.1),by repeat (first|(with_reducible first|exact HB.out|apply oA|apply pN|apply o1|refine bS ?_ Bj.out|refine bS ?_ Bk.out)|exact HB.out),by repeat (first|(with_reducible first|exact HK.out|apply Kept.alloc|apply Kept.drewN|apply Kept.drew|refine Kept.setCell ?_ (.inr Bh.out) _|refine Kept.setCell ?_ (.inr Bi.out) _)|exact HK.out)⟩
    rw [if_pos c14] at H
    have c14b0:(t278 == 1)=true:=beq_iff_eq.mpr c14
    have c14b1:(t278 != 1)=false:=bne_eq_false_iff_eq.mpr c14
    clear c14
    obtain ⟨ji15,hji15⟩:∃ j_:Int,(wrap64 (a1 - 1))=j_:=⟨_,rfl⟩
    replace H:(if 0≤(ji15) then (if (ji15)<(l0_1.length:Int) then (if rdOf false l0_1 (ji15)=true then (if (ji15)<(l0_0.length:Int) then (some ((y277.set ((ji15):Int).toNat true),l0_1,l0_2)) else (none)) else (some (y277,l0_1,l0_2))) else (none)) else (none))=some (r1,r2,r3):=by first|(rw [hji15] at H;exact H)|(simp only [hji15] at H ⊢;exact H)
    (try rw [hji15] at A13)
    have hji15w:(IntKind.i64.wrap (a1 - 1))=ji15:=(i64_w _).trans hji15
    by_cases c16:0≤(ji15)
    rotate_left
    ·rw [if_neg c16] at H
     exact absurd H (by simp)
    rw [if_pos c16] at H
    have c16b0:decide (0≤(ji15))=true:=decide_eq_true c16
    clear c16
    by_cases c17:(ji15)<(l0_1.length:Int)
    rotate_left
    ·rw [if_neg c17] at H
     exact absurd H (by simp)
    rw [if_pos c17] at H
    have c17b0:decide ((ji15)<(l0_1.length:Int))=true:=decide_eq_true c17
    clear c17
    obtain ⟨bq18,hbq18⟩:∃ b_:Bool,b_=(rdOf false l0_1 (ji15)):=⟨_,rfl⟩
    replace H:(if bq18=true then (if (ji15)<(l0_0.length:Int) then (some ((y277.set ((ji15):Int).toNat true),l0_1,l0_2)) else (none)) else (some (y277,l0_1,l0_2)))=some (r1,r2,r3):=by rw [← hbq18] at H;exact H
    have Nbq18:=Am hbq18
    clear hbq18
    by_cases c19:bq18=true
    rotate_left
    ·replace c19:=Bool.eq_false_iff.mpr c19
     subst c19
     have H1:(some (y277,l0_1,l0_2))=some (r1,r2,r3):=by rw [if_neg (show ¬ (false=true) by decide)] at H;exact H
     clear H
     have H:=H1
     clear H1
     simp only [Option.some.injEq,Prod.mk.injEq] at H
     obtain ⟨rfl,rfl,rfl⟩:=H
     have JH:=Bl.out
     have JI:=Bm.out
     have FC:=cz0 Bb.out
     have FD:=cz1 Bb.out
     have FE:=cz2 Bb.out
     have FF:=bF Bb.out 0
     have FG:=bF Bb.out 1
     have FH:=bF Bb.out 2
     have p12:0≤(2:Int):=(by omega)
     have q12:(2:Int)<((l0_0.length:Int):Int):=of_decide_eq_true (by first|(with_reducible assumption)|assumption)
     have qi12:(2<l0_0.length)=True:=eq_true (by omega)
     obtain ⟨go12,co12,eo12,Bq,gl12,cl12,HG12⟩:=Kd.R_form Ba.out (by omega)
     (first|cases eo12|(injection eo12 with ea_ en_ ec_;(first|subst ea_|(injection ea_ with ea_;subst ea_));subst ec_;clear en_))
     have GB12:=Am Bq
     have GG12:=Am HG12
     clear Bq gl12 HG12
     have HMgo12:=Am (show ((P0_0_ go12∨P0_1_ go12∨P0_2_ go12)∨w.heap.size≤go12) from (Ba.out.1 _ rfl).1)
     obtain ⟨hx12_0,hf12_0⟩:=Kd.R_celln false Ba.out (2:Int) p12 q12
     (try rw [show ((2:Int)).toNat=2 from rfl] at hx12_0)
     (try simp only [Nat.reduceMul,Nat.zero_mul,Nat.zero_add,Nat.reduceAdd] at hx12_0)
     (try rw [show ((2:Int)).toNat=2 from rfl] at hf12_0)
     (try simp only [Nat.reduceMul,Nat.zero_mul,Nat.zero_add,Nat.reduceAdd] at hf12_0)
     replace p12:=eq_true p12
     replace q12:=eq_true q12
     have HP35:=Kd.R_putg Ba.out (2:Int) false
     go_wp2_with (first|((with_reducible refine gate_store (t:=4) (p:=11) rfl ?_);refine store_event (t:=4) (p:=11) (v:=?vo_w36) (w1:=(wc.setCell ⟨go12,(2:Int).toNat,none⟩ (.bool false))) ?hg ?ho ?hn ?hr ?_;(case ho=>rfl);(case hg=>rfl);(case hn=>rfl);(case hr=>first|(go_simp;done)|(go_simp;rfl));intro w36 hw;have hg:wc.grownBy w36 (some go12):=(by rw [hw];exact HP35.2);have hp_:Kd.R Kd.bool 4 w36 w0.heap.size (fun k_=>((P0_0_ k_∨P0_1_ k_∨P0_2_ k_)∨w.heap.size≤k_)∧some k_≠(.slice Ao5 l0_1.length co5:Value).ownBlock) (.slice (some ⟨go12,0,none⟩) l0_0.length co4) y277:=(by rw [hw,Ny277.out];exact HP35.1);clear HP35;have n0_:=Am (hp_);have n1_:=Am (Kd.R_after (v:=(.slice (some ⟨go12,0,none⟩) l0_0.length co4)) (v1:=(.slice (some ⟨go12,0,none⟩) l0_0.length co4)) (ok:=(fun k_=>((P0_0_ k_∨P0_1_ k_∨P0_2_ k_)∨w.heap.size≤k_))) (rL Bc.out) hg (.inl rfl));have n2_:=Am (Kd.R_over' (v:=(.slice (some ⟨go12,0,none⟩) l0_0.length co4)) (rL Be.out) (Kd.R_typed Ba.out) (by decide) hg);have n3_:=Am (blk_grown (g:=Bg) (o:=.cells #[.slice (some ⟨go12,0,none⟩) l0_0.length co4,.slice Ao5 l0_1.length co5,.slice Ao6 l0_2.length co6] 26 (0,0)) (bL Bb.out) hg (Kd.R_ne Ba.out Bb.out (by decide)));have n4_:=Am (blk_grown (g:=Bf) (o:=.cells #[.slice none 0 0,.slice none 0 0,.slice none 0 0] 26 (0,0)) (bL Bd.out) hg (Kd.R_ne Ba.out Bd.out (by decide)));have n5_:=Am ((by rw [hw];exact bS (HB.out) GB12.out:Below w0.heap.size w0 w36));have n6_:=Am (Kept.of_grown (S:=(fun k_=>P0_0_ k_∨P0_1_ k_∨P0_2_ k_)) hg (by repeat (first|(with_reducible first|exact HK.out|apply Kept.alloc|apply Kept.drewN|apply Kept.drew|refine Kept.setCell ?_ (.inr Bh.out) _|refine Kept.setCell ?_ (.inr Bi.out) _)|exact HK.out)) (fun k_ e_=>(Ba.out.1 k_ e_).1));clear Ba Bc Be Bb Bd HB HK;revert n0_ n1_ n2_ n3_ n4_ n5_ n6_;intro Ba Bc Be Bb Bd HB HK;clear hg hw hp_;have FI:=cz0 Bb.out;have FJ:=cz1 Bb.out;have FK:=cz2 Bb.out;have FL:=bF Bb.out 0;have FM:=bF Bb.out 1;have FN:=bF Bb.out 2)|((with_reducible refine gate_callee (f:=50) rfl ?_);refine goesL_ (some 22) rfl rfl Try.func50 (by kernel_rfl) rfl #[.agg #[.slice (some ⟨go12,0,none⟩) y277.length co4,.slice Ao5 l0_1.length co5,.slice Ao6 l0_2.length co6],.int .i64 a1] rfl (by (try simp only [lM,lC,lN]);first|done|(rw [show y277.length=l0_0.length from (Kd.R_reads' Ba.out).1.symm] <;> rfl)|rfl|(simp only [lD,lT];rfl)) ?_;(with_reducible refine (spec_l10Does.calls kj2 _ _ y277 _ _ l0_1 _ _ l0_2 a1 t278 _ ?side1 ?side2 ?side3 ?side4 ?side5 ?side6 A13.out).mono ?_);(case side1=>exact cL (Kd.R_reads' Ba.out).2.2);(case side2=>rw [show y277.length=l0_0.length from (Kd.R_reads' Ba.out).1.symm];exact (Kd.R_reads' Ba.out).2.1);(case side3=>exact cL (Kd.R_reads' Bc.out).2.2);(case side4=>exact (Kd.R_reads' Bc.out).2.1);(case side5=>exact cL (Kd.R_reads' Be.out).2.2);(case side6=>exact (Kd.R_reads' Be.out).2.1);rintro e w38 ⟨rfl,hb⟩;refine ⟨_,rfl,?_⟩;have n0_:=Am (rB (rL Ba.out) hb);have n1_:=Am (rB (rL Bc.out) hb);have n2_:=Am (rB (rL Be.out) hb);have n3_:=Am (bX Bb.out hb);have n4_:=Am (bX Bd.out hb);have n5_:=Am (Kept.below (S:=(fun k_=>P0_0_ k_∨P0_1_ k_∨P0_2_ k_)) (by repeat (first|(with_reducible first|exact HK.out|apply Kept.alloc|apply Kept.drewN|apply Kept.drew|refine Kept.setCell ?_ (.inr Bh.out) _|refine Kept.setCell ?_ (.inr Bi.out) _)|exact HK.out)) hb);have n6_:=Am (bP (by repeat (first|(with_reducible first|exact HB.out|apply oA|apply pN|apply o1|refine bS ?_ Bj.out|refine bS ?_ Bk.out)|exact HB.out)) hb);clear Ba Bc Be Bb Bd HK HB;revert n0_ n1_ n2_ n3_ n4_ n5_ n6_;intro Ba Bc Be Bb Bd HK HB;(try clear hb);(try clear hb2);(try clear hk);(try clear hi);have FO:=cz0 Bb.out;have FP:=cz1 Bb.out;have FQ:=cz2 Bb.out;have FR:=bF Bb.out 0;have FS:=bF Bb.out 1;have FT:=bF Bb.out 2;have p279:0≤((ji15):Int):=of_decide_eq_true (by first|(with_reducible assumption)|assumption);have q279:(ji15)<(l0_1.length:Int):=of_decide_eq_true (by first|(with_reducible assumption)|assumption);obtain ⟨ad279,e279,hx279_0⟩:=Kd.at_bool (Kd.R_reads' Bc.out).2.2 (ji15) p279 q279;(try rw [← Nbq18.out] at hx279_0);cases e279;replace p279:=eq_true p279;replace q279:=eq_true q279;have FU:=cz0 Bd.out;have FV:=cz1 Bd.out;have FW:=cz2 Bd.out;have FX:=bF Bd.out 0;have FY:=bF Bd.out 1;have FZ:=bF Bd.out 2))
     refine bodyPost_ret (results_cell_row rfl _ _ Bf 26 #[.slice (some ⟨go12,0,none⟩) l0_0.length co4,.slice (some ad279) l0_1.length co5,.slice Ao6 l0_2.length co6] (0,0) _ rfl (by (with_reducible repeat (first|refine bN ?_ _|refine bD ?_|refine bA ?_ _));refine blk_put (cs:=#[.slice (some ⟨go12,0,none⟩) l0_0.length co4,.slice (some ad279) l0_1.length co5,.slice none 0 0]) ?_ 2 _ rfl;(with_reducible repeat (first|refine bN ?_ _|refine bD ?_|refine bA ?_ _));refine blk_put (cs:=#[.slice (some ⟨go12,0,none⟩) l0_0.length co4,.slice none 0 0,.slice none 0 0]) ?_ 1 _ rfl;(with_reducible repeat (first|refine bN ?_ _|refine bD ?_|refine bA ?_ _));refine blk_put (cs:=#[.slice none 0 0,.slice none 0 0,.slice none 0 0]) ?_ 0 _ rfl;(with_reducible repeat (first|refine bN ?_ _|refine bD ?_|refine bA ?_ _));exact Bd.out) Try.underlying26 rfl (by kernel_rfl)) rfl ?_
     exact ⟨_,_,_,by first|rfl|(simp [errW_none,errW_some] <;> rfl)|(simp only [← hji15];first|rfl|(simp [errW_none,errW_some] <;> rfl))|(simp [*,errW_none,errW_some] <;> rfl),by (with_reducible repeat (first|apply rA|apply rN|apply rD));exact rM (rF (p:=⟨Bf,2,none⟩) (rF (p:=⟨Bf,1,none⟩) (rF (p:=⟨Bf,0,none⟩) (rT Ba.out Bd.out (by decide)) (fun _ hk=>hk.2) (.slice (some ⟨go12,0,none⟩) l0_0.length co4)) (fun _ hk=>hk.2) (.slice (some ad279) l0_1.length co5)) (fun _ hk=>hk.2) (.slice Ao6 l0_2.length co6)) (fun _ hk=>⟨hk.1.1,hk.1.2⟩),by (with_reducible repeat (first|apply rA|apply rN|apply rD));exact rM (rF (p:=⟨Bf,2,none⟩) (rF (p:=⟨Bf,1,none⟩) (rF (p:=⟨Bf,0,none⟩) (rT Bc.out Bd.out (by decide)) (fun _ hk=>hk.2) (.slice (some ⟨go12,0,none⟩) l0_0.length co4)) (fun _ hk=>hk.2) (.slice (some ad279) l0_1.length co5)) (fun _ hk=>hk.2) (.slice Ao6 l0_2.length co6)) (fun _ hk=>⟨hk.1.1,hk.1.2⟩),by (with_reducible repeat (first|apply rA|apply rN|apply rD));exact rM (rF (p:=⟨Bf,2,none⟩) (rF (p:=⟨Bf,1,none⟩) (rF (p:=⟨Bf,0,none⟩) (rT Be.out Bd.out (by decide)) (fun _ hk=>hk.2) (.slice (some ⟨go12,0,none⟩) l0_0.length co4)) (fun _ hk=>hk.2) (.slice (some ad279) l0_1.length co5)) (fun _ hk=>hk.2) (.slice Ao6 l0_2.length co6)) (fun _ hk=>hk.1),by repeat (first|(with_reducible first|exact HB.out|apply oA|apply pN|apply o1|refine bS ?_ Bj.out|refine bS ?_ Bk.out)|exact HB.out),by repeat (first|(with_reducible first|exact HK.out|apply Kept.alloc|apply Kept.drewN|apply Kept.drew|refine Kept.setCell ?_ (.inr Bh.out) _|refine Kept.setCell ?_ (.inr Bi.out) _)|exact HK.out)⟩
    subst c19
    have H1:(if (ji15)<(l0_0.length:Int) then (some ((y277.set ((ji15):Int).toNat true),l0_1,l0_2)) else (none))=some (r1,r2,r3):=by rw [if_pos rfl] at H;exact H
    clear H
    have H:=H1
    clear H1
    by_cases c20:(ji15)<(l0_0.length:Int)
    rotate_left
    ·rw [if_neg c20] at H
     exact absurd H (by simp)
    rw [if_pos c20] at H
    have c20b0:decide ((ji15)<(l0_0.length:Int))=true:=decide_eq_true c20
    clear c20
    obtain ⟨y280,hy280⟩:∃ y_:List Bool,y_=(y277.set ((ji15):Int).toNat true):=⟨_,rfl⟩
    replace H:(some (y280,l0_1,l0_2))=some (r1,r2,r3):=by first|(rw [hy280];with_reducible exact H)|(have H2_:=(Option.bind_some _ _).symm.trans H;rw [hy280];with_reducible exact H2_)|(have H2_:=(Option.bind_some _ _).symm.trans H;with_reducible exact H2_)|with_reducible exact H|(rw [hy280];exact H)|exact H
    have Ny280:=Am hy280
    clear hy280
    simp only [Option.some.injEq,Prod.mk.injEq] at H
    obtain ⟨rfl,rfl,rfl⟩:=H
    have JF:=Bl.out
    have JG:=Bm.out
    have D8:=cz0 Bb.out
    have D9:=cz1 Bb.out
    have Fa:=cz2 Bb.out
    have Fb:=bF Bb.out 0
    have Fc:=bF Bb.out 1
    have Fd:=bF Bb.out 2
    have p12:0≤(2:Int):=(by omega)
    have q12:(2:Int)<((l0_0.length:Int):Int):=of_decide_eq_true (by first|(with_reducible assumption)|assumption)
    have qi12:(2<l0_0.length)=True:=eq_true (by omega)
    obtain ⟨go12,co12,eo12,Bq,gl12,cl12,HG12⟩:=Kd.R_form Ba.out (by omega)
    (first|cases eo12|(injection eo12 with ea_ en_ ec_;(first|subst ea_|(injection ea_ with ea_;subst ea_));subst ec_;clear en_))
    have GB12:=Am Bq
    have GG12:=Am HG12
    clear Bq gl12 HG12
    have HMgo12:=Am (show ((P0_0_ go12∨P0_1_ go12∨P0_2_ go12)∨w.heap.size≤go12) from (Ba.out.1 _ rfl).1)
    obtain ⟨hx12_0,hf12_0⟩:=Kd.R_celln false Ba.out (2:Int) p12 q12
    (try rw [show ((2:Int)).toNat=2 from rfl] at hx12_0)
    (try simp only [Nat.reduceMul,Nat.zero_mul,Nat.zero_add,Nat.reduceAdd] at hx12_0)
    (try rw [show ((2:Int)).toNat=2 from rfl] at hf12_0)
    (try simp only [Nat.reduceMul,Nat.zero_mul,Nat.zero_add,Nat.reduceAdd] at hf12_0)
    replace p12:=eq_true p12
    replace q12:=eq_true q12
    have HP24:=Kd.R_putg Ba.out (2:Int) false
    go_wp2_with (first|((with_reducible refine gate_store (t:=4) (p:=11) rfl ?_);refine store_event (t:=4) (p:=11) (v:=?vo_w25) (w1:=(wc.setCell ⟨go12,(2:Int).toNat,none⟩ (.bool false))) ?hg ?ho ?hn ?hr ?_;(case ho=>rfl);(case hg=>rfl);(case hn=>rfl);(case hr=>first|(go_simp;done)|(go_simp;rfl));intro w25 hw;have hg:wc.grownBy w25 (some go12):=(by rw [hw];exact HP24.2);have hp_:Kd.R Kd.bool 4 w25 w0.heap.size (fun k_=>((P0_0_ k_∨P0_1_ k_∨P0_2_ k_)∨w.heap.size≤k_)∧some k_≠(.slice Ao5 l0_1.length co5:Value).ownBlock) (.slice (some ⟨go12,0,none⟩) l0_0.length co4) y277:=(by rw [hw,Ny277.out];exact HP24.1);clear HP24;have n0_:=Am (hp_);have n1_:=Am (Kd.R_after (v:=(.slice (some ⟨go12,0,none⟩) l0_0.length co4)) (v1:=(.slice (some ⟨go12,0,none⟩) l0_0.length co4)) (ok:=(fun k_=>((P0_0_ k_∨P0_1_ k_∨P0_2_ k_)∨w.heap.size≤k_))) (rL Bc.out) hg (.inl rfl));have n2_:=Am (Kd.R_over' (v:=(.slice (some ⟨go12,0,none⟩) l0_0.length co4)) (rL Be.out) (Kd.R_typed Ba.out) (by decide) hg);have n3_:=Am (blk_grown (g:=Bg) (o:=.cells #[.slice (some ⟨go12,0,none⟩) l0_0.length co4,.slice Ao5 l0_1.length co5,.slice Ao6 l0_2.length co6] 26 (0,0)) (bL Bb.out) hg (Kd.R_ne Ba.out Bb.out (by decide)));have n4_:=Am (blk_grown (g:=Bf) (o:=.cells #[.slice none 0 0,.slice none 0 0,.slice none 0 0] 26 (0,0)) (bL Bd.out) hg (Kd.R_ne Ba.out Bd.out (by decide)));have n5_:=Am ((by rw [hw];exact bS (HB.out) GB12.out:Below w0.heap.size w0 w25));have n6_:=Am (Kept.of_grown (S:=(fun k_=>P0_0_ k_∨P0_1_ k_∨P0_2_ k_)) hg (by repeat (first|(with_reducible first|exact HK.out|apply Kept.alloc|apply Kept.drewN|apply Kept.drew|refine Kept.setCell ?_ (.inr Bh.out) _|refine Kept.setCell ?_ (.inr Bi.out) _)|exact HK.out)) (fun k_ e_=>(Ba.out.1 k_ e_).1));clear Ba Bc Be Bb Bd HB HK;revert n0_ n1_ n2_ n3_ n4_ n5_ n6_;intro Ba Bc Be Bb Bd HB HK;clear hg hw hp_;have Fe:=cz0 Bb.out;have Ff:=cz1 Bb.out;have Fg:=cz2 Bb.out;have Fh:=bF Bb.out 0;have Fi:=bF Bb.out 1;have Fj:=bF Bb.out 2)|((with_reducible refine gate_callee (f:=50) rfl ?_);refine goesL_ (some 22) rfl rfl Try.func50 (by kernel_rfl) rfl #[.agg #[.slice (some ⟨go12,0,none⟩) y277.length co4,.slice Ao5 l0_1.length co5,.slice Ao6 l0_2.length co6],.int .i64 a1] rfl (by (try simp only [lM,lC,lN]);first|done|(rw [show y277.length=l0_0.length from (Kd.R_reads' Ba.out).1.symm] <;> rfl)|rfl|(simp only [lD,lT];rfl)) ?_;(with_reducible refine (spec_l10Does.calls kj2 _ _ y277 _ _ l0_1 _ _ l0_2 a1 t278 _ ?side1 ?side2 ?side3 ?side4 ?side5 ?side6 A13.out).mono ?_);(case side1=>exact cL (Kd.R_reads' Ba.out).2.2);(case side2=>rw [show y277.length=l0_0.length from (Kd.R_reads' Ba.out).1.symm];exact (Kd.R_reads' Ba.out).2.1);(case side3=>exact cL (Kd.R_reads' Bc.out).2.2);(case side4=>exact (Kd.R_reads' Bc.out).2.1);(case side5=>exact cL (Kd.R_reads' Be.out).2.2);(case side6=>exact (Kd.R_reads' Be.out).2.1);rintro e w27 ⟨rfl,hb⟩;refine ⟨_,rfl,?_⟩;have n0_:=Am (rB (rL Ba.out) hb);have n1_:=Am (rB (rL Bc.out) hb);have n2_:=Am (rB (rL Be.out) hb);have n3_:=Am (bX Bb.out hb);have n4_:=Am (bX Bd.out hb);have n5_:=Am (Kept.below (S:=(fun k_=>P0_0_ k_∨P0_1_ k_∨P0_2_ k_)) (by repeat (first|(with_reducible first|exact HK.out|apply Kept.alloc|apply Kept.drewN|apply Kept.drew|refine Kept.setCell ?_ (.inr Bh.out) _|refine Kept.setCell ?_ (.inr Bi.out) _)|exact HK.out)) hb);have n6_:=Am (bP (by repeat (first|(with_reducible first|exact HB.out|apply oA|apply pN|apply o1|refine bS ?_ Bj.out|refine bS ?_ Bk.out)|exact HB.out)) hb);clear Ba Bc Be Bb Bd HK HB;revert n0_ n1_ n2_ n3_ n4_ n5_ n6_;intro Ba Bc Be Bb Bd HK HB;(try clear hb);(try clear hb2);(try clear hk);(try clear hi);have Fk:=cz0 Bb.out;have Fl:=cz1 Bb.out;have Fm:=cz2 Bb.out;have Fn:=bF Bb.out 0;have Fo:=bF Bb.out 1;have Fp:=bF Bb.out 2;have p279:0≤((ji15):Int):=of_decide_eq_true (by first|(with_reducible assumption)|assumption);have q279:(ji15)<(l0_1.length:Int):=of_decide_eq_true (by first|(with_reducible assumption)|assumption);obtain ⟨ad279,e279,hx279_0⟩:=Kd.at_bool (Kd.R_reads' Bc.out).2.2 (ji15) p279 q279;(try rw [← Nbq18.out] at hx279_0);cases e279;replace p279:=eq_true p279;replace q279:=eq_true q279;have p21:0≤((ji15):Int):=of_decide_eq_true (by first|(with_reducible assumption)|assumption);have q21:((ji15):Int)<((l0_0.length:Int):Int):=of_decide_eq_true (by first|(with_reducible assumption)|assumption);obtain ⟨hx21_0,hf21_0⟩:=Kd.R_celln false Ba.out ((ji15):Int) p21 q21;replace p21:=eq_true p21;replace q21:=eq_true q21;obtain ⟨hy29_,hz29_⟩:=Kd.R_celln false Ba.out ((ji15):Int) (of_decide_eq_true (by first|(with_reducible assumption)|assumption)) (of_decide_eq_true (by first|(with_reducible assumption)|assumption));have HP29:=Kd.R_putg Ba.out ((ji15):Int) true)|((with_reducible refine gate_store (t:=4) (p:=36) rfl ?_);refine store_event (t:=4) (p:=36) (v:=?vo_w30) (w1:=(w27.setCell ⟨go12,((ji15):Int).toNat,none⟩ (.bool true))) ?hg ?ho ?hn ?hr ?_;(case ho=>rfl);(case hg=>rfl);(case hn=>rfl);(case hr=>first|(go_simp;done)|(go_simp;rfl));intro w30 hw;have hg:w27.grownBy w30 (some go12):=(by rw [hw];exact HP29.2);have hp_:Kd.R Kd.bool 4 w30 w0.heap.size (fun k_=>((P0_0_ k_∨P0_1_ k_∨P0_2_ k_)∨w.heap.size≤k_)∧some k_≠(.slice (some ad279) l0_1.length co5:Value).ownBlock) (.slice (some ⟨go12,0,none⟩) l0_0.length co4) y280:=(by rw [hw,Ny280.out];exact HP29.1);clear HP29;have n0_:=Am (hp_);have n1_:=Am (Kd.R_after (v:=(.slice (some ⟨go12,0,none⟩) l0_0.length co4)) (v1:=(.slice (some ⟨go12,0,none⟩) l0_0.length co4)) (ok:=(fun k_=>((P0_0_ k_∨P0_1_ k_∨P0_2_ k_)∨w.heap.size≤k_))) (rL Bc.out) hg (.inl rfl));have n2_:=Am (Kd.R_over' (v:=(.slice (some ⟨go12,0,none⟩) l0_0.length co4)) (rL Be.out) (Kd.R_typed Ba.out) (by decide) hg);have n3_:=Am (blk_grown (g:=Bg) (o:=.cells #[.slice (some ⟨go12,0,none⟩) l0_0.length co4,.slice (some ad279) l0_1.length co5,.slice Ao6 l0_2.length co6] 26 (0,0)) (bL Bb.out) hg (Kd.R_ne Ba.out Bb.out (by decide)));have n4_:=Am (blk_grown (g:=Bf) (o:=.cells #[.slice none 0 0,.slice none 0 0,.slice none 0 0] 26 (0,0)) (bL Bd.out) hg (Kd.R_ne Ba.out Bd.out (by decide)));have n5_:=Am ((by rw [hw];exact bS (HB.out) GB12.out:Below w0.heap.size w0 w30));have n6_:=Am (Kept.of_grown (S:=(fun k_=>P0_0_ k_∨P0_1_ k_∨P0_2_ k_)) hg (by repeat (first|(with_reducible first|exact HK.out|apply Kept.alloc|apply Kept.drewN|apply Kept.drew|refine Kept.setCell ?_ (.inr Bh.out) _|refine Kept.setCell ?_ (.inr Bi.out) _)|exact HK.out)) (fun k_ e_=>(Ba.out.1 k_ e_).1));clear Ba Bc Be Bb Bd HB HK;revert n0_ n1_ n2_ n3_ n4_ n5_ n6_;intro Ba Bc Be Bb Bd HB HK;clear hg hw hp_;have Fq:=cz0 Bb.out;have Fr:=cz1 Bb.out;have Fs:=cz2 Bb.out;have Ft:=bF Bb.out 0;have Fu:=bF Bb.out 1;have Fv:=bF Bb.out 2;have Fw:=cz0 Bd.out;have Fx:=cz1 Bd.out;have Fy:=cz2 Bd.out;have Fz:=bF Bd.out 0;have FA:=bF Bd.out 1;have FB:=bF Bd.out 2))
    refine bodyPost_ret (results_cell_row rfl _ _ Bf 26 #[.slice (some ⟨go12,0,none⟩) l0_0.length co4,.slice (some ad279) l0_1.length co5,.slice Ao6 l0_2.length co6] (0,0) _ rfl (by (with_reducible repeat (first|refine bN ?_ _|refine bD ?_|refine bA ?_ _));refine blk_put (cs:=#[.slice (some ⟨go12,0,none⟩) l0_0.length co4,.slice (some ad279) l0_1.length co5,.slice none 0 0]) ?_ 2 _ rfl;(with_reducible repeat (first|refine bN ?_ _|refine bD ?_|refine bA ?_ _));refine blk_put (cs:=#[.slice (some ⟨go12,0,none⟩) l0_0.length co4,.slice none 0 0,.slice none 0 0]) ?_ 1 _ rfl;(with_reducible repeat (first|refine bN ?_ _|refine bD ?_|refine bA ?_ _));refine blk_put (cs:=#[.slice none 0 0,.slice none 0 0,.slice none 0 0]) ?_ 0 _ rfl;(with_reducible repeat (first|refine bN ?_ _|refine bD ?_|refine bA ?_ _));exact Bd.out) Try.underlying26 rfl (by kernel_rfl)) rfl ?_
    exact ⟨_,_,_,by first|rfl|(simp [errW_none,errW_some] <;> rfl)|(simp only [← hji15];first|rfl|(simp [errW_none,errW_some] <;> rfl))|(simp [*,errW_none,errW_some] <;> rfl),by (with_reducible repeat (first|apply rA|apply rN|apply rD));exact rM (rF (p:=⟨Bf,2,none⟩) (rF (p:=⟨Bf,1,none⟩) (rF (p:=⟨Bf,0,none⟩) (rT Ba.out Bd.out (by decide)) (fun _ hk=>hk.2) (.slice (some ⟨go12,0,none⟩) l0_0.length co4)) (fun _ hk=>hk.2) (.slice (some ad279) l0_1.length co5)) (fun _ hk=>hk.2) (.slice Ao6 l0_2.length co6)) (fun _ hk=>⟨hk.1.1,hk.1.2⟩),by (with_reducible repeat (first|apply rA|apply rN|apply rD));exact rM (rF (p:=⟨Bf,2,none⟩) (rF (p:=⟨Bf,1,none⟩) (rF (p:=⟨Bf,0,none⟩) (rT Bc.out Bd.out (by decide)) (fun _ hk=>hk.2) (.slice (some ⟨go12,0,none⟩) l0_0.length co4)) (fun _ hk=>hk.2) (.slice (some ad279) l0_1.length co5)) (fun _ hk=>hk.2) (.slice Ao6 l0_2.length co6)) (fun _ hk=>⟨hk.1.1,hk.1.2⟩),by (with_reducible repeat (first|apply rA|apply rN|apply rD));exact rM (rF (p:=⟨Bf,2,none⟩) (rF (p:=⟨Bf,1,none⟩) (rF (p:=⟨Bf,0,none⟩) (rT Be.out Bd.out (by decide)) (fun _ hk=>hk.2) (.slice (some ⟨go12,0,none⟩) l0_0.length co4)) (fun _ hk=>hk.2) (.slice (some ad279) l0_1.length co5)) (fun _ hk=>hk.2) (.slice Ao6 l0_2.length co6)) (fun _ hk=>hk.1),by repeat (first|(with_reducible first|exact HB.out|apply oA|apply pN|apply o1|refine bS ?_ Bj.out|refine bS ?_ Bk.out)|exact HB.out),by repeat (first|(with_reducible first|exact HK.out|apply Kept.alloc|apply Kept.drewN|apply Kept.drew|refine Kept.setCell ?_ (.inr Bh.out) _|refine Kept.setCell ?_ (.inr Bi.out) _)|exact HK.out)⟩
   replace c10:=Bool.eq_false_iff.mpr c10
   subst c10
   have H1:(if a1=3 then (if 1<(l0_0.length:Int) then (if 5<(l0_0.length:Int) then ((some ((l0_0.set (1:Int).toNat false).set (5:Int).toNat false:List Bool)).bind fun y283=>((spec_l10Does.f kj2 y283 l0_1 l0_2 a1).bind fun t284=>(if t284=1 then (if 0≤(wrap64 (a1 - 1)) then (if (wrap64 (a1 - 1))<(l0_1.length:Int) then (if rdOf false l0_1 (wrap64 (a1 - 1))=true then (if (wrap64 (a1 - 1))<(l0_0.length:Int) then (some ((y283.set ((wrap64 (a1 - 1)):Int).toNat true),l0_1,l0_2)) else (none)) else (some (y283,l0_1,l0_2))) else (none)) else (none)) else (if 0≤(wrap64 (a1 - 1)) then (if (wrap64 (a1 - 1))<(l0_0.length:Int) then (some ((y283.set ((wrap64 (a1 - 1)):Int).toNat true),l0_1,l0_2)) else (none)) else (none))))) else (none)) else (none)) else ((spec_l10Does.f kj2 l0_0 l0_1 l0_2 a1).bind fun t288=>(if t288=1 then (if 0≤(wrap64 (a1 - 1)) then (if (wrap64 (a1 - 1))<(l0_1.length:Int) then (if rdOf false l0_1 (wrap64 (a1 - 1))=true then (if (wrap64 (a1 - 1))<(l0_0.length:Int) then (some ((l0_0.set ((wrap64 (a1 - 1)):Int).toNat true),l0_1,l0_2)) else (none)) else (some (l0_0,l0_1,l0_2))) else (none)) else (none)) else (if 0≤(wrap64 (a1 - 1)) then (if (wrap64 (a1 - 1))<(l0_0.length:Int) then (some ((l0_0.set ((wrap64 (a1 - 1)):Int).toNat true),l0_1,l0_2)) else (none)) else (none)))))=some (r1,r2,r3):=by rw [if_neg (show ¬ (false=true) by decide)] at H;exact H
   clear H
   have H:=H1
   clear H1
   by_cases c56:a1=3
   rotate_left
   ·rw [if_neg c56] at H
    have c56b0:(a1 == 3)=false:=beq_eq_false_iff_ne.mpr c56
    have c56b1:(a1 != 3)=true:=bne_iff_ne.mpr c56
    replace H:=oC H
    obtain ⟨t288,A1130,H⟩:=H
    replace H:(if t288=1 then (if 0≤(wrap64 (a1 - 1)) then (if (wrap64 (a1 - 1))<(l0_1.length:Int) then (if rdOf false l0_1 (wrap64 (a1 - 1))=true then (if (wrap64 (a1 - 1))<(l0_0.length:Int) then (some ((l0_0.set ((wrap64 (a1 - 1)):Int).toNat true),l0_1,l0_2)) else (none)) else (some (l0_0,l0_1,l0_2))) else (none)) else (none)) else (if 0≤(wrap64 (a1 - 1)) then (if (wrap64 (a1 - 1))<(l0_0.length:Int) then (some ((l0_0.set ((wrap64 (a1 - 1)):Int).toNat true),l0_1,l0_2)) else (none)) else (none)))=some (r1,r2,r3):=H
    have A113:=Am A1130
    clear A1130
    by_cases c114:t288=1
    rotate_left
    ·rw [if_neg c114] at H
     have c114b0:(t288 == 1)=false:=beq_eq_false_iff_ne.mpr c114
     have c114b1:(t288 != 1)=true:=bne_iff_ne.mpr c114
     obtain ⟨ji135,hji135⟩:∃ j_:Int,(wrap64 (a1 - 1))=j_:=⟨_,rfl⟩
     replace H:(if 0≤(ji135) then (if (ji135)<(l0_0.length:Int) then (some ((l0_0.set ((ji135):Int).toNat true),l0_1,l0_2)) else (none)) else (none))=some (r1,r2,r3):=by first|(rw [hji135] at H;exact H)|(simp only [hji135] at H ⊢;exact H)
     (try rw [hji135] at A113)
     have hji135w:(IntKind.i64.wrap (a1 - 1))=ji135:=(i64_w _).trans hji135
     by_cases c136:0≤(ji135)
     rotate_left
     ·rw [if_neg c136] at H
      exact absurd H (by simp)

     rw [if_pos c136] at H
     have c136b0:decide (0≤(ji135))=true:=decide_eq_true c136
     clear c136
     by_cases c137:(ji135)<(l0_0.length:Int)
     rotate_left
     ·rw [if_neg c137] at H
      exact absurd H (by simp)
     rw [if_pos c137] at H
     have c137b0:decide ((ji135)<(l0_0.length:Int))=true:=decide_eq_true c137
     clear c137
     obtain ⟨y291,hy291⟩:∃ y_:List Bool,y_=(l0_0.set ((ji135):Int).toNat true):=⟨_,rfl⟩
     replace H:(some (y291,l0_1,l0_2))=some (r1,r2,r3):=by first|(rw [hy291];with_reducible exact H)|(have H2_:=(Option.bind_some _ _).symm.trans H;rw [hy291];with_reducible exact H2_)|(have H2_:=(Option.bind_some _ _).symm.trans H;with_reducible exact H2_)|with_reducible exact H|(rw [hy291];exact H)|exact H
     have Ny291:=Am hy291
     clear hy291
     simp only [Option.some.injEq,Prod.mk.injEq] at H
     obtain ⟨rfl,rfl,rfl⟩:=H
     have JD:=Bl.out
     have JE:=Bm.out
     have DK:=cz0 Bb.out
     have DL:=cz1 Bb.out
     have DM:=cz2 Bb.out
     have DN:=bF Bb.out 0
     have DO:=bF Bb.out 1
     have DP:=bF Bb.out 2
     go_wp2_with (first|((with_reducible refine gate_callee (f:=50) rfl ?_);refine goesL_ (some 22) rfl rfl Try.func50 (by kernel_rfl) rfl #[.agg #[.slice Ao4 l0_0.length co4,.slice Ao5 l0_1.length co5,.slice Ao6 l0_2.length co6],.int .i64 a1] rfl (by (try simp only [lM,lC,lN]);first|done|rfl|(simp only [lD,lT];rfl)) ?_;(with_reducible refine (spec_l10Does.calls kj2 _ _ l0_0 _ _ l0_1 _ _ l0_2 a1 t288 _ ?side1 ?side2 ?side3 ?side4 ?side5 ?side6 A113.out).mono ?_);(case side1=>exact cL (Kd.R_reads' Ba.out).2.2);(case side2=>exact (Kd.R_reads' Ba.out).2.1);(case side3=>exact cL (Kd.R_reads' Bc.out).2.2);(case side4=>exact (Kd.R_reads' Bc.out).2.1);(case side5=>exact cL (Kd.R_reads' Be.out).2.2);(case side6=>exact (Kd.R_reads' Be.out).2.1);rintro e w141 ⟨rfl,hb⟩;refine ⟨_,rfl,?_⟩;have n0_:=Am (rB (rL Ba.out) hb);have n1_:=Am (rB (rL Bc.out) hb);have n2_:=Am (rB (rL Be.out) hb);have n3_:=Am (bX Bb.out hb);have n4_:=Am (bX Bd.out hb);have n5_:=Am (Kept.below (S:=(fun k_=>P0_0_ k_∨P0_1_ k_∨P0_2_ k_)) (by repeat (first|(with_reducible first|exact HK.out|apply Kept.alloc|apply Kept.drewN|apply Kept.drew|refine Kept.setCell ?_ (.inr Bh.out) _|refine Kept.setCell ?_ (.inr Bi.out) _)|exact HK.out)) hb);have n6_:=Am (bP (by repeat (first|(with_reducible first|exact HB.out|apply oA|apply pN|apply o1|refine bS ?_ Bj.out|refine bS ?_ Bk.out)|exact HB.out)) hb);clear Ba Bc Be Bb Bd HK HB;revert n0_ n1_ n2_ n3_ n4_ n5_ n6_;intro Ba Bc Be Bb Bd HK HB;(try clear hb);(try clear hb2);(try clear hk);(try clear hi);have DQ:=cz0 Bb.out;have DR:=cz1 Bb.out;have DS:=cz2 Bb.out;have DT:=bF Bb.out 0;have DU:=bF Bb.out 1;have DV:=bF Bb.out 2;have p138:0≤((ji135):Int):=of_decide_eq_true (by first|(with_reducible assumption)|assumption);have q138:((ji135):Int)<((l0_0.length:Int):Int):=of_decide_eq_true (by first|(with_reducible assumption)|assumption);obtain ⟨go138,co138,eo138,Bt,gl138,cl138,HG138⟩:=Kd.R_form Ba.out (by omega);(first|cases eo138|(injection eo138 with ea_ en_ ec_;(first|subst ea_|(injection ea_ with ea_;subst ea_));subst ec_;clear en_));have GB138:=Am Bt;have GG138:=Am HG138;clear Bt gl138 HG138;have HMgo138:=Am (show ((P0_0_ go138∨P0_1_ go138∨P0_2_ go138)∨w.heap.size≤go138) from (Ba.out.1 _ rfl).1);obtain ⟨hx138_0,hf138_0⟩:=Kd.R_celln false Ba.out ((ji135):Int) p138 q138;replace p138:=eq_true p138;replace q138:=eq_true q138;obtain ⟨hy143_,hz143_⟩:=Kd.R_celln false Ba.out ((ji135):Int) (of_decide_eq_true (by first|(with_reducible assumption)|assumption)) (of_decide_eq_true (by first|(with_reducible assumption)|assumption));have HP143:=Kd.R_putg Ba.out ((ji135):Int) true)|((with_reducible refine gate_store (t:=4) (p:=36) rfl ?_);refine store_event (t:=4) (p:=36) (v:=?vo_w144) (w1:=(w141.setCell ⟨go138,((ji135):Int).toNat,none⟩ (.bool true))) ?hg ?ho ?hn ?hr ?_;(case ho=>rfl);(case hg=>rfl);(case hn=>rfl);(case hr=>first|(go_simp;done)|(go_simp;rfl));intro w144 hw;have hg:w141.grownBy w144 (some go138):=(by rw [hw];exact HP143.2);have hp_:Kd.R Kd.bool 4 w144 w0.heap.size (fun k_=>((P0_0_ k_∨P0_1_ k_∨P0_2_ k_)∨w.heap.size≤k_)∧some k_≠(.slice Ao5 l0_1.length co5:Value).ownBlock) (.slice (some ⟨go138,0,none⟩) l0_0.length co4) y291:=(by rw [hw,Ny291.out];exact HP143.1);clear HP143;have n0_:=Am (hp_);have n1_:=Am (Kd.R_after (v:=(.slice (some ⟨go138,0,none⟩) l0_0.length co4)) (v1:=(.slice (some ⟨go138,0,none⟩) l0_0.length co4)) (ok:=(fun k_=>((P0_0_ k_∨P0_1_ k_∨P0_2_ k_)∨w.heap.size≤k_))) (rL Bc.out) hg (.inl rfl));have n2_:=Am (Kd.R_over' (v:=(.slice (some ⟨go138,0,none⟩) l0_0.length co4)) (rL Be.out) (Kd.R_typed Ba.out) (by decide) hg);have n3_:=Am (blk_grown (g:=Bg) (o:=.cells #[.slice (some ⟨go138,0,none⟩) l0_0.length co4,.slice Ao5 l0_1.length co5,.slice Ao6 l0_2.length co6] 26 (0,0)) (bL Bb.out) hg (Kd.R_ne Ba.out Bb.out (by decide)));have n4_:=Am (blk_grown (g:=Bf) (o:=.cells #[.slice none 0 0,.slice none 0 0,.slice none 0 0] 26 (0,0)) (bL Bd.out) hg (Kd.R_ne Ba.out Bd.out (by decide)));have n5_:=Am ((by rw [hw];exact bS (HB.out) GB138.out:Below w0.heap.size w0 w144));have n6_:=Am (Kept.of_grown (S:=(fun k_=>P0_0_ k_∨P0_1_ k_∨P0_2_ k_)) hg (by repeat (first|(with_reducible first|exact HK.out|apply Kept.alloc|apply Kept.drewN|apply Kept.drew|refine Kept.setCell ?_ (.inr Bh.out) _|refine Kept.setCell ?_ (.inr Bi.out) _)|exact HK.out)) (fun k_ e_=>(Ba.out.1 k_ e_).1));clear Ba Bc Be Bb Bd HB HK;revert n0_ n1_ n2_ n3_ n4_ n5_ n6_;intro Ba Bc Be Bb Bd HB HK;clear hg hw hp_;have DW:=cz0 Bb.out;have DX:=cz1 Bb.out;have DY:=cz2 Bb.out;have DZ:=bF Bb.out 0;have D0:=bF Bb.out 1;have D1:=bF Bb.out 2;have D2:=cz0 Bd.out;have D3:=cz1 Bd.out;have D4:=cz2 Bd.out;have D5:=bF Bd.out 0;have D6:=bF Bd.out 1;have D7:=bF Bd.out 2))
     refine bodyPost_ret (results_cell_row rfl _ _ Bf 26 #[.slice (some ⟨go138,0,none⟩) l0_0.length co4,.slice Ao5 l0_1.length co5,.slice Ao6 l0_2.length co6] (0,0) _ rfl (by (with_reducible repeat (first|refine bN ?_ _|refine bD ?_|refine bA ?_ _));refine blk_put (cs:=#[.slice (some ⟨go138,0,none⟩) l0_0.length co4,.slice Ao5 l0_1.length co5,.slice none 0 0]) ?_ 2 _ rfl;(with_reducible repeat (first|refine bN ?_ _|refine bD ?_|refine bA ?_ _));refine blk_put (cs:=#[.slice (some ⟨go138,0,none⟩) l0_0.length co4,.slice none 0 0,.slice none 0 0]) ?_ 1 _ rfl;(with_reducible repeat (first|refine bN ?_ _|refine bD ?_|refine bA ?_ _));refine blk_put (cs:=#[.slice none 0 0,.slice none 0 0,.slice none 0 0]) ?_ 0 _ rfl;(with_reducible repeat (first|refine bN ?_ _|refine bD ?_|refine bA ?_ _));exact Bd.out) Try.underlying26 rfl (by kernel_rfl)) rfl ?_
     exact ⟨_,_,_,by first|rfl|(simp [errW_none,errW_some] <;> rfl)|(simp only [← hji135];first|rfl|(simp [errW_none,errW_some] <;> rfl))|(simp [*,errW_none,errW_some] <;> rfl),by (with_reducible repeat (first|apply rA|apply rN|apply rD));exact rM (rF (p:=⟨Bf,2,none⟩) (rF (p:=⟨Bf,1,none⟩) (rF (p:=⟨Bf,0,none⟩) (rT Ba.out Bd.out (by decide)) (fun _ hk=>hk.2) (.slice (some ⟨go138,0,none⟩) l0_0.length co4)) (fun _ hk=>hk.2) (.slice Ao5 l0_1.length co5)) (fun _ hk=>hk.2) (.slice Ao6 l0_2.length co6)) (fun _ hk=>⟨hk.1.1,hk.1.2⟩),by (with_reducible repeat (first|apply rA|apply rN|apply rD));exact rM (rF (p:=⟨Bf,2,none⟩) (rF (p:=⟨Bf,1,none⟩) (rF (p:=⟨Bf,0,none⟩) (rT Bc.out Bd.out (by decide)) (fun _ hk=>hk.2) (.slice (some ⟨go138,0,none⟩) l0_0.length co4)) (fun _ hk=>hk.2) (.slice Ao5 l0_1.length co5)) (fun _ hk=>hk.2) (.slice Ao6 l0_2.length co6)) (fun _ hk=>⟨hk.1.1,hk.1.2⟩),by (with_reducible repeat (first|apply rA|apply rN|apply rD));exact rM (rF (p:=⟨Bf,2,none⟩) (rF (p:=⟨Bf,1,none⟩) (rF (p:=⟨Bf,0,none⟩) (rT Be.out Bd.out (by decide)) (fun _ hk=>hk.2) (.slice (some ⟨go138,0,none⟩) l0_0.length co4)) (fun _ hk=>hk.2) (.slice Ao5 l0_1.length co5)) (fun _ hk=>hk.2) (.slice Ao6 l0_2.length co6)) (fun _ hk=>hk.1),by repeat (first|(with_reducible first|exact HB.out|apply oA|apply pN|apply o1|refine bS ?_ Bj.out|refine bS ?_ Bk.out)|exact HB.out),by repeat (first|(with_reducible first|exact HK.out|apply Kept.alloc|apply Kept.drewN|apply Kept.drew|refine Kept.setCell ?_ (.inr Bh.out) _|refine Kept.setCell ?_ (.inr Bi.out) _)|exact HK.out)⟩
    rw [if_pos c114] at H
    have c114b0:(t288 == 1)=true:=beq_iff_eq.mpr c114
    have c114b1:(t288 != 1)=false:=bne_eq_false_iff_eq.mpr c114
    clear c114
    obtain ⟨ji115,hji115⟩:∃ j_:Int,(wrap64 (a1 - 1))=j_:=⟨_,rfl⟩
    replace H:(if 0≤(ji115) then (if (ji115)<(l0_1.length:Int) then (if rdOf false l0_1 (ji115)=true then (if (ji115)<(l0_0.length:Int) then (some ((l0_0.set ((ji115):Int).toNat true),l0_1,l0_2)) else (none)) else (some (l0_0,l0_1,l0_2))) else (none)) else (none))=some (r1,r2,r3):=by first|(rw [hji115] at H;exact H)|(simp only [hji115] at H ⊢;exact H)
    (try rw [hji115] at A113)
    have hji115w:(IntKind.i64.wrap (a1 - 1))=ji115:=(i64_w _).trans hji115
    by_cases c116:0≤(ji115)
    rotate_left
    ·rw [if_neg c116] at H
     exact absurd H (by simp)
    rw [if_pos c116] at H
    have c116b0:decide (0≤(ji115))=true:=decide_eq_true c116
    clear c116
    by_cases c117:(ji115)<(l0_1.length:Int)
    rotate_left
    ·rw [if_neg c117] at H
     exact absurd H (by simp)
    rw [if_pos c117] at H
    have c117b0:decide ((ji115)<(l0_1.length:Int))=true:=decide_eq_true c117
    clear c117
    obtain ⟨bq118,hbq118⟩:∃ b_:Bool,b_=(rdOf false l0_1 (ji115)):=⟨_,rfl⟩
    replace H:(if bq118=true then (if (ji115)<(l0_0.length:Int) then (some ((l0_0.set ((ji115):Int).toNat true),l0_1,l0_2)) else (none)) else (some (l0_0,l0_1,l0_2)))=some (r1,r2,r3):=by rw [← hbq118] at H;exact H
    have Nbq118:=Am hbq118
    clear hbq118
    by_cases c119:bq118=true
    rotate_left
    ·replace c119:=Bool.eq_false_iff.mpr c119
     subst c119
     have H1:(some (l0_0,l0_1,l0_2))=some (r1,r2,r3):=by rw [if_neg (show ¬ (false=true) by decide)] at H;exact H
     clear H
     have H:=H1
     clear H1
     simp only [Option.some.injEq,Prod.mk.injEq] at H
     obtain ⟨rfl,rfl,rfl⟩:=H
     have JB:=Bl.out
     have JC:=Bm.out
     have Ds:=cz0 Bb.out
     have Dt:=cz1 Bb.out
     have Du:=cz2 Bb.out
     have Dv:=bF Bb.out 0
     have Dw:=bF Bb.out 1
     have Dx:=bF Bb.out 2
     go_wp2_with (first|((with_reducible refine gate_callee (f:=50) rfl ?_);refine goesL_ (some 22) rfl rfl Try.func50 (by kernel_rfl) rfl #[.agg #[.slice Ao4 l0_0.length co4,.slice Ao5 l0_1.length co5,.slice Ao6 l0_2.length co6],.int .i64 a1] rfl (by (try simp only [lM,lC,lN]);first|done|rfl|(simp only [lD,lT];rfl)) ?_;(with_reducible refine (spec_l10Does.calls kj2 _ _ l0_0 _ _ l0_1 _ _ l0_2 a1 t288 _ ?side1 ?side2 ?side3 ?side4 ?side5 ?side6 A113.out).mono ?_);(case side1=>exact cL (Kd.R_reads' Ba.out).2.2);(case side2=>exact (Kd.R_reads' Ba.out).2.1);(case side3=>exact cL (Kd.R_reads' Bc.out).2.2);(case side4=>exact (Kd.R_reads' Bc.out).2.1);(case side5=>exact cL (Kd.R_reads' Be.out).2.2);(case side6=>exact (Kd.R_reads' Be.out).2.1);rintro e w132 ⟨rfl,hb⟩;refine ⟨_,rfl,?_⟩;have n0_:=Am (rB (rL Ba.out) hb);have n1_:=Am (rB (rL Bc.out) hb);have n2_:=Am (rB (rL Be.out) hb);have n3_:=Am (bX Bb.out hb);have n4_:=Am (bX Bd.out hb);have n5_:=Am (Kept.below (S:=(fun k_=>P0_0_ k_∨P0_1_ k_∨P0_2_ k_)) (by repeat (first|(with_reducible first|exact HK.out|apply Kept.alloc|apply Kept.drewN|apply Kept.drew|refine Kept.setCell ?_ (.inr Bh.out) _|refine Kept.setCell ?_ (.inr Bi.out) _)|exact HK.out)) hb);have n6_:=Am (bP (by repeat (first|(with_reducible first|exact HB.out|apply oA|apply pN|apply o1|refine bS ?_ Bj.out|refine bS ?_ Bk.out)|exact HB.out)) hb);clear Ba Bc Be Bb Bd HK HB;revert n0_ n1_ n2_ n3_ n4_ n5_ n6_;intro Ba Bc Be Bb Bd HK HB;(try clear hb);(try clear hb2);(try clear hk);(try clear hi);have Dy:=cz0 Bb.out;have Dz:=cz1 Bb.out;have DA:=cz2 Bb.out;have DB:=bF Bb.out 0;have DC:=bF Bb.out 1;have DD:=bF Bb.out 2;have p289:0≤((ji115):Int):=of_decide_eq_true (by first|(with_reducible assumption)|assumption);have q289:(ji115)<(l0_1.length:Int):=of_decide_eq_true (by first|(with_reducible assumption)|assumption);obtain ⟨ad289,e289,hx289_0⟩:=Kd.at_bool (Kd.R_reads' Bc.out).2.2 (ji115) p289 q289;(try rw [← Nbq118.out] at hx289_0);cases e289;replace p289:=eq_true p289;replace q289:=eq_true q289;have DE:=cz0 Bd.out;have DF:=cz1 Bd.out;have DG:=cz2 Bd.out;have DH:=bF Bd.out 0;have DI:=bF Bd.out 1;have DJ:=bF Bd.out 2))
     refine bodyPost_ret (results_cell_row rfl _ _ Bf 26 #[.slice Ao4 l0_0.length co4,.slice (some ad289) l0_1.length co5,.slice Ao6 l0_2.length co6] (0,0) _ rfl (by (with_reducible repeat (first|refine bN ?_ _|refine bD ?_|refine bA ?_ _));refine blk_put (cs:=#[.slice Ao4 l0_0.length co4,.slice (some ad289) l0_1.length co5,.slice none 0 0]) ?_ 2 _ rfl;(with_reducible repeat (first|refine bN ?_ _|refine bD ?_|refine bA ?_ _));refine blk_put (cs:=#[.slice Ao4 l0_0.length co4,.slice none 0 0,.slice none 0 0]) ?_ 1 _ rfl;(with_reducible repeat (first|refine bN ?_ _|refine bD ?_|refine bA ?_ _));refine blk_put (cs:=#[.slice none 0 0,.slice none 0 0,.slice none 0 0]) ?_ 0 _ rfl;(with_reducible repeat (first|refine bN ?_ _|refine bD ?_|refine bA ?_ _));exact Bd.out) Try.underlying26 rfl (by kernel_rfl)) rfl ?_
     exact ⟨_,_,_,by first|rfl|(simp [errW_none,errW_some] <;> rfl)|(simp only [← hji115];first|rfl|(simp [errW_none,errW_some] <;> rfl))|(simp [*,errW_none,errW_some] <;> rfl),by (with_reducible repeat (first|apply rA|apply rN|apply rD));exact rM (rF (p:=⟨Bf,2,none⟩) (rF (p:=⟨Bf,1,none⟩) (rF (p:=⟨Bf,0,none⟩) (rT Ba.out Bd.out (by decide)) (fun _ hk=>hk.2) (.slice Ao4 l0_0.length co4)) (fun _ hk=>hk.2) (.slice (some ad289) l0_1.length co5)) (fun _ hk=>hk.2) (.slice Ao6 l0_2.length co6)) (fun _ hk=>⟨hk.1.1,hk.1.2⟩),by (with_reducible repeat (first|apply rA|apply rN|apply rD));exact rM (rF (p:=⟨Bf,2,none⟩) (rF (p:=⟨Bf,1,none⟩) (rF (p:=⟨Bf,0,none⟩) (rT Bc.out Bd.out (by decide)) (fun _ hk=>hk.2) (.slice Ao4 l0_0.length co4)) (fun _ hk=>hk.2) (.slice (some ad289) l0_1.length co5)) (fun _ hk=>hk.2) (.slice Ao6 l0_2.length co6)) (fun _ hk=>⟨hk.1.1,hk.1.2⟩),by (with_reducible repeat (first|apply rA|apply rN|apply rD));exact rM (rF (p:=⟨Bf,2,none⟩) (rF (p:=⟨Bf,1,none⟩) (rF (p:=⟨Bf,0,none⟩) (rT Be.out Bd.out (by decide)) (fun _ hk=>hk.2) (.slice Ao4 l0_0.length co4)) (fun _ hk=>hk.2) (.slice (some ad289) l0_1.length co5)) (fun _ hk=>hk.2) (.slice Ao6 l0_2.length co6)) (fun _ hk=>hk.1),by repeat (first|(with_reducible first|exact HB.out|apply oA|apply pN|apply o1|refine bS ?_ Bj.out|refine bS ?_ Bk.out)|exact HB.out),by repeat (first|(with_reducible first|exact HK.out|apply Kept.alloc|apply Kept.drewN|apply Kept.drew|refine Kept.setCell ?_ (.inr Bh.out) _|refine Kept.setCell ?_ (.inr Bi.out) _)|exact HK.out)⟩
    subst c119
    have H1:(if (ji115)<(l0_0.length:Int) then (some ((l0_0.set ((ji115):Int).toNat true),l0_1,l0_2)) else (none))=some (r1,r2,r3):=by rw [if_pos rfl] at H;exact H
    clear H
    have H:=H1
    clear H1
    by_cases c120:(ji115)<(l0_0.length:Int)
    rotate_left
    ·rw [if_neg c120] at H
     exact absurd H (by simp)
    rw [if_pos c120] at H
    have c120b0:decide ((ji115)<(l0_0.length:Int))=true:=decide_eq_true c120
    clear c120
    obtain ⟨y290,hy290⟩:∃ y_:List Bool,y_=(l0_0.set ((ji115):Int).toNat true):=⟨_,rfl⟩
    replace H:(some (y290,l0_1,l0_2))=some (r1,r2,r3):=by first|(rw [hy290];with_reducible exact H)|(have H2_:=(Option.bind_some _ _).symm.trans H;rw [hy290];with_reducible exact H2_)|(have H2_:=(Option.bind_some _ _).symm.trans H;with_reducible exact H2_)|with_reducible exact H|(rw [hy290];exact H)|exact H
    have Ny290:=Am hy290
    clear hy290
    simp only [Option.some.injEq,Prod.mk.injEq] at H
    obtain ⟨rfl,rfl,rfl⟩:=H
    have Jz:=Bl.out
    have JA:=Bm.out
    have B4:=cz0 Bb.out
    have B5:=cz1 Bb.out
    have B6:=cz2 Bb.out
    have B7:=bF Bb.out 0
    have B8:=bF Bb.out 1
    have B9:=bF Bb.out 2
    go_wp2_with (first|((with_reducible refine gate_callee (f:=50) rfl ?_);refine goesL_ (some 22) rfl rfl Try.func50 (by kernel_rfl) rfl #[.agg #[.slice Ao4 l0_0.length co4,.slice Ao5 l0_1.length co5,.slice Ao6 l0_2.length co6],.int .i64 a1] rfl (by (try simp only [lM,lC,lN]);first|done|rfl|(simp only [lD,lT];rfl)) ?_;(with_reducible refine (spec_l10Does.calls kj2 _ _ l0_0 _ _ l0_1 _ _ l0_2 a1 t288 _ ?side1 ?side2 ?side3 ?side4 ?side5 ?side6 A113.out).mono ?_);(case side1=>exact cL (Kd.R_reads' Ba.out).2.2);(case side2=>exact (Kd.R_reads' Ba.out).2.1);(case side3=>exact cL (Kd.R_reads' Bc.out).2.2);(case side4=>exact (Kd.R_reads' Bc.out).2.1);(case side5=>exact cL (Kd.R_reads' Be.out).2.2);(case side6=>exact (Kd.R_reads' Be.out).2.1);rintro e w124 ⟨rfl,hb⟩;refine ⟨_,rfl,?_⟩;have n0_:=Am (rB (rL Ba.out) hb);have n1_:=Am (rB (rL Bc.out) hb);have n2_:=Am (rB (rL Be.out) hb);have n3_:=Am (bX Bb.out hb);have n4_:=Am (bX Bd.out hb);have n5_:=Am (Kept.below (S:=(fun k_=>P0_0_ k_∨P0_1_ k_∨P0_2_ k_)) (by repeat (first|(with_reducible first|exact HK.out|apply Kept.alloc|apply Kept.drewN|apply Kept.drew|refine Kept.setCell ?_ (.inr Bh.out) _|refine Kept.setCell ?_ (.inr Bi.out) _)|exact HK.out)) hb);have n6_:=Am (bP (by repeat (first|(with_reducible first|exact HB.out|apply oA|apply pN|apply o1|refine bS ?_ Bj.out|refine bS ?_ Bk.out)|exact HB.out)) hb);clear Ba Bc Be Bb Bd HK HB;revert n0_ n1_ n2_ n3_ n4_ n5_ n6_;intro Ba Bc Be Bb Bd HK HB;(try clear hb);(try clear hb2);(try clear hk);(try clear hi);have Da:=cz0 Bb.out;have Db:=cz1 Bb.out;have Dc:=cz2 Bb.out;have Dd:=bF Bb.out 0;have De:=bF Bb.out 1;have Df:=bF Bb.out 2;have p289:0≤((ji115):Int):=of_decide_eq_true (by first|(with_reducible assumption)|assumption);have q289:(ji115)<(l0_1.length:Int):=of_decide_eq_true (by first|(with_reducible assumption)|assumption);obtain ⟨ad289,e289,hx289_0⟩:=Kd.at_bool (Kd.R_reads' Bc.out).2.2 (ji115) p289 q289;(try rw [← Nbq118.out] at hx289_0);cases e289;replace p289:=eq_true p289;replace q289:=eq_true q289;have p121:0≤((ji115):Int):=of_decide_eq_true (by first|(with_reducible assumption)|assumption);have q121:((ji115):Int)<((l0_0.length:Int):Int):=of_decide_eq_true (by first|(with_reducible assumption)|assumption);obtain ⟨go121,co121,eo121,Bs,gl121,cl121,HG121⟩:=Kd.R_form Ba.out (by omega);(first|cases eo121|(injection eo121 with ea_ en_ ec_;(first|subst ea_|(injection ea_ with ea_;subst ea_));subst ec_;clear en_));have GB121:=Am Bs;have GG121:=Am HG121;clear Bs gl121 HG121;have HMgo121:=Am (show ((P0_0_ go121∨P0_1_ go121∨P0_2_ go121)∨w.heap.size≤go121) from (Ba.out.1 _ rfl).1);obtain ⟨hx121_0,hf121_0⟩:=Kd.R_celln false Ba.out ((ji115):Int) p121 q121;replace p121:=eq_true p121;replace q121:=eq_true q121;obtain ⟨hy126_,hz126_⟩:=Kd.R_celln false Ba.out ((ji115):Int) (of_decide_eq_true (by first|(with_reducible assumption)|assumption)) (of_decide_eq_true (by first|(with_reducible assumption)|assumption));have HP126:=Kd.R_putg Ba.out ((ji115):Int) true)|((with_reducible refine gate_store (t:=4) (p:=36) rfl ?_);refine store_event (t:=4) (p:=36) (v:=?vo_w127) (w1:=(w124.setCell ⟨go121,((ji115):Int).toNat,none⟩ (.bool true))) ?hg ?ho ?hn ?hr ?_;(case ho=>rfl);(case hg=>rfl);(case hn=>rfl);(case hr=>first|(go_simp;done)|(go_simp;rfl));intro w127 hw;have hg:w124.grownBy w127 (some go121):=(by rw [hw];exact HP126.2);have hp_:Kd.R Kd.bool 4 w127 w0.heap.size (fun k_=>((P0_0_ k_∨P0_1_ k_∨P0_2_ k_)∨w.heap.size≤k_)∧some k_≠(.slice (some ad289) l0_1.length co5:Value).ownBlock) (.slice (some ⟨go121,0,none⟩) l0_0.length co4) y290:=(by rw [hw,Ny290.out];exact HP126.1);clear HP126;have n0_:=Am (hp_);have n1_:=Am (Kd.R_after (v:=(.slice (some ⟨go121,0,none⟩) l0_0.length co4)) (v1:=(.slice (some ⟨go121,0,none⟩) l0_0.length co4)) (ok:=(fun k_=>((P0_0_ k_∨P0_1_ k_∨P0_2_ k_)∨w.heap.size≤k_))) (rL Bc.out) hg (.inl rfl));have n2_:=Am (Kd.R_over' (v:=(.slice (some ⟨go121,0,none⟩) l0_0.length co4)) (rL Be.out) (Kd.R_typed Ba.out) (by decide) hg);have n3_:=Am (blk_grown (g:=Bg) (o:=.cells #[.slice (some ⟨go121,0,none⟩) l0_0.length co4,.slice (some ad289) l0_1.length co5,.slice Ao6 l0_2.length co6] 26 (0,0)) (bL Bb.out) hg (Kd.R_ne Ba.out Bb.out (by decide)));have n4_:=Am (blk_grown (g:=Bf) (o:=.cells #[.slice none 0 0,.slice none 0 0,.slice none 0 0] 26 (0,0)) (bL Bd.out) hg (Kd.R_ne Ba.out Bd.out (by decide)));have n5_:=Am ((by rw [hw];exact bS (HB.out) GB121.out:Below w0.heap.size w0 w127));have n6_:=Am (Kept.of_grown (S:=(fun k_=>P0_0_ k_∨P0_1_ k_∨P0_2_ k_)) hg (by repeat (first|(with_reducible first|exact HK.out|apply Kept.alloc|apply Kept.drewN|apply Kept.drew|refine Kept.setCell ?_ (.inr Bh.out) _|refine Kept.setCell ?_ (.inr Bi.out) _)|exact HK.out)) (fun k_ e_=>(Ba.out.1 k_ e_).1));clear Ba Bc Be Bb Bd HB HK;revert n0_ n1_ n2_ n3_ n4_ n5_ n6_;intro Ba Bc Be Bb Bd HB HK;clear hg hw hp_;have Dg:=cz0 Bb.out;have Dh:=cz1 Bb.out;have Di:=cz2 Bb.out;have Dj:=bF Bb.out 0;have Dk:=bF Bb.out 1;have Dl:=bF Bb.out 2;have Dm:=cz0 Bd.out;have Dn:=cz1 Bd.out;have Do:=cz2 Bd.out;have Dp:=bF Bd.out 0;have Dq:=bF Bd.out 1;have Dr:=bF Bd.out 2))
    refine bodyPost_ret (results_cell_row rfl _ _ Bf 26 #[.slice (some ⟨go121,0,none⟩) l0_0.length co4,.slice (some ad289) l0_1.length co5,.slice Ao6 l0_2.length co6] (0,0) _ rfl (by (with_reducible repeat (first|refine bN ?_ _|refine bD ?_|refine bA ?_ _));refine blk_put (cs:=#[.slice (some ⟨go121,0,none⟩) l0_0.length co4,.slice (some ad289) l0_1.length co5,.slice none 0 0]) ?_ 2 _ rfl;(with_reducible repeat (first|refine bN ?_ _|refine bD ?_|refine bA ?_ _));refine blk_put (cs:=#[.slice (some ⟨go121,0,none⟩) l0_0.length co4,.slice none 0 0,.slice none 0 0]) ?_ 1 _ rfl;(with_reducible repeat (first|refine bN ?_ _|refine bD ?_|refine bA ?_ _));refine blk_put (cs:=#[.slice none 0 0,.slice none 0 0,.slice none 0 0]) ?_ 0 _ rfl;(with_reducible repeat (first|refine bN ?_ _|refine bD ?_|refine bA ?_ _));exact Bd.out) Try.underlying26 rfl (by kernel_rfl)) rfl ?_
    exact ⟨_,_,_,by first|rfl|(simp [errW_none,errW_some] <;> rfl)|(simp only [← hji115];first|rfl|(simp [errW_none,errW_some] <;> rfl))|(simp [*,errW_none,errW_some] <;> rfl),by (with_reducible repeat (first|apply rA|apply rN|apply rD));exact rM (rF (p:=⟨Bf,2,none⟩) (rF (p:=⟨Bf,1,none⟩) (rF (p:=⟨Bf,0,none⟩) (rT Ba.out Bd.out (by decide)) (fun _ hk=>hk.2) (.slice (some ⟨go121,0,none⟩) l0_0.length co4)) (fun _ hk=>hk.2) (.slice (some ad289) l0_1.length co5)) (fun _ hk=>hk.2) (.slice Ao6 l0_2.length co6)) (fun _ hk=>⟨hk.1.1,hk.1.2⟩),by (with_reducible repeat (first|apply rA|apply rN|apply rD));exact rM (rF (p:=⟨Bf,2,none⟩) (rF (p:=⟨Bf,1,none⟩) (rF (p:=⟨Bf,0,none⟩) (rT Bc.out Bd.out (by decide)) (fun _ hk=>hk.2) (.slice (some ⟨go121,0,none⟩) l0_0.length co4)) (fun _ hk=>hk.2) (.slice (some ad289) l0_1.length co5)) (fun _ hk=>hk.2) (.slice Ao6 l0_2.length co6)) (fun _ hk=>⟨hk.1.1,hk.1.2⟩),by (with_reducible repeat (first|apply rA|apply rN|apply rD));exact rM (rF (p:=⟨Bf,2,none⟩) (rF (p:=⟨Bf,1,none⟩) (rF (p:=⟨Bf,0,none⟩) (rT Be.out Bd.out (by decide)) (fun _ hk=>hk.2) (.slice (some ⟨go121,0,none⟩) l0_0.length co4)) (fun _ hk=>hk.2) (.slice (some ad289) l0_1.length co5)) (fun _ hk=>hk.2) (.slice Ao6 l0_2.length co6)) (fun _ hk=>hk.1),by repeat (first|(with_reducible first|exact HB.out|apply oA|apply pN|apply o1|refine bS ?_ Bj.out|refine bS ?_ Bk.out)|exact HB.out),by repeat (first|(with_reducible first|exact HK.out|apply Kept.alloc|apply Kept.drewN|apply Kept.drew|refine Kept.setCell ?_ (.inr Bh.out) _|refine Kept.setCell ?_ (.inr Bi.out) _)|exact HK.out)⟩
   rw [if_pos c56] at H
   have c56b0:(a1 == 3)=true:=beq_iff_eq.mpr c56
   have c56b1:(a1 != 3)=false:=bne_eq_false_iff_eq.mpr c56
   clear c56
   by_cases c57:1<(l0_0.length:Int)
   rotate_left
   ·rw [if_neg c57] at H
    exact absurd H (by simp)
   rw [if_pos c57] at H
   have c57b0:decide (1<(l0_0.length:Int))=true:=decide_eq_true c57
   have c57b1:decide (1<l0_0.length)=true:=decide_eq_true (by omega)
   clear c57
   obtain ⟨y282,hy282⟩:∃ y_:List Bool,y_=(l0_0.set (1:Int).toNat false):=⟨_,rfl⟩
   replace H:(if 5<(l0_0.length:Int) then ((some (y282.set (5:Int).toNat false:List Bool)).bind fun y283=>((spec_l10Does.f kj2 y283 l0_1 l0_2 a1).bind fun t284=>(if t284=1 then (if 0≤(wrap64 (a1 - 1)) then (if (wrap64 (a1 - 1))<(l0_1.length:Int) then (if rdOf false l0_1 (wrap64 (a1 - 1))=true then (if (wrap64 (a1 - 1))<(l0_0.length:Int) then (some ((y283.set ((wrap64 (a1 - 1)):Int).toNat true),l0_1,l0_2)) else (none)) else (some (y283,l0_1,l0_2))) else (none)) else (none)) else (if 0≤(wrap64 (a1 - 1)) then (if (wrap64 (a1 - 1))<(l0_0.length:Int) then (some ((y283.set ((wrap64 (a1 - 1)):Int).toNat true),l0_1,l0_2)) else (none)) else (none))))) else (none))=some (r1,r2,r3):=by first|(rw [hy282];with_reducible exact H)|(have H2_:=(Option.bind_some _ _).symm.trans H;rw [hy282];with_reducible exact H2_)|(have H2_:=(Option.bind_some _ _).symm.trans H;with_reducible exact H2_)|with_reducible exact H|(rw [hy282];exact H)|exact H
   have Ny282:=Am hy282
   clear hy282
   by_cases c59:5<(l0_0.length:Int)
   rotate_left
   ·rw [if_neg c59] at H
    exact absurd H (by simp)
   rw [if_pos c59] at H
   have c59b0:decide (5<(l0_0.length:Int))=true:=decide_eq_true c59
   have c59b1:decide (5<l0_0.length)=true:=decide_eq_true (by omega)
   clear c59
   obtain ⟨y283,hy283⟩:∃ y_:List Bool,y_=(y282.set (5:Int).toNat false):=⟨_,rfl⟩
   replace H:((spec_l10Does.f kj2 y283 l0_1 l0_2 a1).bind fun t284=>(if t284=1 then (if 0≤(wrap64 (a1 - 1)) then (if (wrap64 (a1 - 1))<(l0_1.length:Int) then (if rdOf false l0_1 (wrap64 (a1 - 1))=true then (if (wrap64 (a1 - 1))<(l0_0.length:Int) then (some ((y283.set ((wrap64 (a1 - 1)):Int).toNat true),l0_1,l0_2)) else (none)) else (some (y283,l0_1,l0_2))) else (none)) else (none)) else (if 0≤(wrap64 (a1 - 1)) then (if (wrap64 (a1 - 1))<(l0_0.length:Int) then (some ((y283.set ((wrap64 (a1 - 1)):Int).toNat true),l0_1,l0_2)) else (none)) else (none))))=some (r1,r2,r3):=by first|(rw [hy283];with_reducible exact H)|(have H2_:=(Option.bind_some _ _).symm.trans H;rw [hy283];with_reducible exact H2_)|(have H2_:=(Option.bind_some _ _).symm.trans H;with_reducible exact H2_)|with_reducible exact H|(rw [hy283];exact H)|exact H
   have Ny283:=Am hy283
   clear hy283
   replace H:=oC H
   obtain ⟨t284,A610,H⟩:=H
   replace H:(if t284=1 then (if 0≤(wrap64 (a1 - 1)) then (if (wrap64 (a1 - 1))<(l0_1.length:Int) then (if rdOf false l0_1 (wrap64 (a1 - 1))=true then (if (wrap64 (a1 - 1))<(l0_0.length:Int) then (some ((y283.set ((wrap64 (a1 - 1)):Int).toNat true),l0_1,l0_2)) else (none)) else (some (y283,l0_1,l0_2))) else (none)) else (none)) else (if 0≤(wrap64 (a1 - 1)) then (if (wrap64 (a1 - 1))<(l0_0.length:Int) then (some ((y283.set ((wrap64 (a1 - 1)):Int).toNat true),l0_1,l0_2)) else (none)) else (none)))=some (r1,r2,r3):=H
   have A61:=Am A610
   clear A610
   by_cases c62:t284=1
   rotate_left
   ·rw [if_neg c62] at H
    have c62b0:(t284 == 1)=false:=beq_eq_false_iff_ne.mpr c62
    have c62b1:(t284 != 1)=true:=bne_iff_ne.mpr c62
    obtain ⟨ji95,hji95⟩:∃ j_:Int,(wrap64 (a1 - 1))=j_:=⟨_,rfl⟩
    replace H:(if 0≤(ji95) then (if (ji95)<(l0_0.length:Int) then (some ((y283.set ((ji95):Int).toNat true),l0_1,l0_2)) else (none)) else (none))=some (r1,r2,r3):=by first|(rw [hji95] at H;exact H)|(simp only [hji95] at H ⊢;exact H)
    (try rw [hji95] at A61)
    have hji95w:(IntKind.i64.wrap (a1 - 1))=ji95:=(i64_w _).trans hji95
    by_cases c96:0≤(ji95)
    rotate_left
    ·rw [if_neg c96] at H
     exact absurd H (by simp)
    rw [if_pos c96] at H
    have c96b0:decide (0≤(ji95))=true:=decide_eq_true c96
    clear c96
    by_cases c97:(ji95)<(l0_0.length:Int)
    rotate_left
    ·rw [if_neg c97] at H
     exact absurd H (by simp)
    rw [if_pos c97] at H
    have c97b0:decide ((ji95)<(l0_0.length:Int))=true:=decide_eq_true c97
    clear c97
    obtain ⟨y287,hy287⟩:∃ y_:List Bool,y_=(y283.set ((ji95):Int).toNat true):=⟨_,rfl⟩
    replace H:(some (y287,l0_1,l0_2))=some (r1,r2,r3):=by first|(rw [hy287];with_reducible exact H)|(have H2_:=(Option.bind_some _ _).symm.trans H;rw [hy287];with_reducible exact H2_)|(have H2_:=(Option.bind_some _ _).symm.trans H;with_reducible exact H2_)|with_reducible exact H|(rw [hy287];exact H)|exact H
    have Ny287:=Am hy287
    clear hy287
    simp only [Option.some.injEq,Prod.mk.injEq] at H
    obtain ⟨rfl,rfl,rfl⟩:=H
    have JP:=Bl.out
    have JQ:=Bm.out
    have Bu:=cz0 Bb.out
    have Bv:=cz1 Bb.out
    have Bw:=cz2 Bb.out
    have Bx:=bF Bb.out 0
    have By:=bF Bb.out 1
    have Bz:=bF Bb.out 2
    have p58:0≤(1:Int):=(by omega)
    have q58:(1:Int)<((l0_0.length:Int):Int):=of_decide_eq_true (by first|(with_reducible assumption)|assumption)
    have qi58:(1<l0_0.length)=True:=eq_true (by omega)
    obtain ⟨go58,co58,eo58,Br,gl58,cl58,HG58⟩:=Kd.R_form Ba.out (by omega)
    (first|cases eo58|(injection eo58 with ea_ en_ ec_;(first|subst ea_|(injection ea_ with ea_;subst ea_));subst ec_;clear en_))
    have GB58:=Am Br
    have GG58:=Am HG58
    clear Br gl58 HG58
    have HMgo58:=Am (show ((P0_0_ go58∨P0_1_ go58∨P0_2_ go58)∨w.heap.size≤go58) from (Ba.out.1 _ rfl).1)
    obtain ⟨hx58_0,hf58_0⟩:=Kd.R_celln false Ba.out (1:Int) p58 q58
    (try rw [show ((1:Int)).toNat=1 from rfl] at hx58_0)
    (try simp only [Nat.reduceMul,Nat.zero_mul,Nat.zero_add,Nat.reduceAdd] at hx58_0)
    (try rw [show ((1:Int)).toNat=1 from rfl] at hf58_0)
    (try simp only [Nat.reduceMul,Nat.zero_mul,Nat.zero_add,Nat.reduceAdd] at hf58_0)
    replace p58:=eq_true p58
    replace q58:=eq_true q58
    have HP101:=Kd.R_putg Ba.out (1:Int) false
    go_wp2_with (first|((with_reducible refine gate_store (t:=4) (p:=16) rfl ?_);refine store_event (t:=4) (p:=16) (v:=?vo_w102) (w1:=(wc.setCell ⟨go58,(1:Int).toNat,none⟩ (.bool false))) ?hg ?ho ?hn ?hr ?_;(case ho=>rfl);(case hg=>rfl);(case hn=>rfl);(case hr=>first|(go_simp;done)|(go_simp;rfl));intro w102 hw;have hg:wc.grownBy w102 (some go58):=(by rw [hw];exact HP101.2);have hp_:Kd.R Kd.bool 4 w102 w0.heap.size (fun k_=>((P0_0_ k_∨P0_1_ k_∨P0_2_ k_)∨w.heap.size≤k_)∧some k_≠(.slice Ao5 l0_1.length co5:Value).ownBlock) (.slice (some ⟨go58,0,none⟩) l0_0.length co4) y282:=(by rw [hw,Ny282.out];exact HP101.1);clear HP101;have n0_:=Am (hp_);have n1_:=Am (Kd.R_after (v:=(.slice (some ⟨go58,0,none⟩) l0_0.length co4)) (v1:=(.slice (some ⟨go58,0,none⟩) l0_0.length co4)) (ok:=(fun k_=>((P0_0_ k_∨P0_1_ k_∨P0_2_ k_)∨w.heap.size≤k_))) (rL Bc.out) hg (.inl rfl));have n2_:=Am (Kd.R_over' (v:=(.slice (some ⟨go58,0,none⟩) l0_0.length co4)) (rL Be.out) (Kd.R_typed Ba.out) (by decide) hg);have n3_:=Am (blk_grown (g:=Bg) (o:=.cells #[.slice (some ⟨go58,0,none⟩) l0_0.length co4,.slice Ao5 l0_1.length co5,.slice Ao6 l0_2.length co6] 26 (0,0)) (bL Bb.out) hg (Kd.R_ne Ba.out Bb.out (by decide)));have n4_:=Am (blk_grown (g:=Bf) (o:=.cells #[.slice none 0 0,.slice none 0 0,.slice none 0 0] 26 (0,0)) (bL Bd.out) hg (Kd.R_ne Ba.out Bd.out (by decide)));have n5_:=Am ((by rw [hw];exact bS (HB.out) GB58.out:Below w0.heap.size w0 w102));have n6_:=Am (Kept.of_grown (S:=(fun k_=>P0_0_ k_∨P0_1_ k_∨P0_2_ k_)) hg (by repeat (first|(with_reducible first|exact HK.out|apply Kept.alloc|apply Kept.drewN|apply Kept.drew|refine Kept.setCell ?_ (.inr Bh.out) _|refine Kept.setCell ?_ (.inr Bi.out) _)|exact HK.out)) (fun k_ e_=>(Ba.out.1 k_ e_).1));clear Ba Bc Be Bb Bd HB HK;revert n0_ n1_ n2_ n3_ n4_ n5_ n6_;intro Ba Bc Be Bb Bd HB HK;clear hg hw hp_;have BA:=cz0 Bb.out;have BB:=cz1 Bb.out;have BC:=cz2 Bb.out;have BD:=bF Bb.out 0;have BE:=bF Bb.out 1;have BF:=bF Bb.out 2;have p60:0≤(5:Int):=(by omega);have q60:(5:Int)<((l0_0.length:Int):Int):=of_decide_eq_true (by first|(with_reducible assumption)|assumption);have qi60:(5<l0_0.length)=True:=eq_true (by omega);obtain ⟨hx60_0,hf60_0⟩:=Kd.R_celln false Ba.out (5:Int) p60 q60;(try rw [show ((5:Int)).toNat=5 from rfl] at hx60_0);(try simp only [Nat.reduceMul,Nat.zero_mul,Nat.zero_add,Nat.reduceAdd] at hx60_0);(try rw [show ((5:Int)).toNat=5 from rfl] at hf60_0);(try simp only [Nat.reduceMul,Nat.zero_mul,Nat.zero_add,Nat.reduceAdd] at hf60_0);replace p60:=eq_true p60;replace q60:=eq_true q60;obtain ⟨hy104_,hz104_⟩:=Kd.R_celln false Ba.out (5:Int) (by omega) (of_decide_eq_true (by first|(with_reducible assumption)|assumption));(try simp only [Int.reduceToNat,Int.toNat_zero,Int.toNat_ofNat,Nat.reduceMul,Nat.zero_mul,Nat.zero_add] at hy104_ hz104_);(try rw [show ((5:Int)).toNat=5 from rfl] at hy104_);(try rw [show ((5:Int)).toNat=5 from rfl] at hz104_);have HP104:=Kd.R_putg Ba.out (5:Int) false)|((with_reducible refine gate_store (t:=4) (p:=19) rfl ?_);refine store_event (t:=4) (p:=19) (v:=?vo_w105) (w1:=(w102.setCell ⟨go58,(5:Int).toNat,none⟩ (.bool false))) ?hg ?ho ?hn ?hr ?_;(case ho=>rfl);(case hg=>rfl);(case hn=>rfl);(case hr=>first|(go_simp;done)|(go_simp;rfl));intro w105 hw;have hg:w102.grownBy w105 (some go58):=(by rw [hw];exact HP104.2);have hp_:Kd.R Kd.bool 4 w105 w0.heap.size (fun k_=>((P0_0_ k_∨P0_1_ k_∨P0_2_ k_)∨w.heap.size≤k_)∧some k_≠(.slice Ao5 l0_1.length co5:Value).ownBlock) (.slice (some ⟨go58,0,none⟩) l0_0.length co4) y283:=(by rw [hw,Ny283.out];exact HP104.1);clear HP104;have n0_:=Am (hp_);have n1_:=Am (Kd.R_after (v:=(.slice (some ⟨go58,0,none⟩) l0_0.length co4)) (v1:=(.slice (some ⟨go58,0,none⟩) l0_0.length co4)) (ok:=(fun k_=>((P0_0_ k_∨P0_1_ k_∨P0_2_ k_)∨w.heap.size≤k_))) (rL Bc.out) hg (.inl rfl));have n2_:=Am (Kd.R_over' (v:=(.slice (some ⟨go58,0,none⟩) l0_0.length co4)) (rL Be.out) (Kd.R_typed Ba.out) (by decide) hg);have n3_:=Am (blk_grown (g:=Bg) (o:=.cells #[.slice (some ⟨go58,0,none⟩) l0_0.length co4,.slice Ao5 l0_1.length co5,.slice Ao6 l0_2.length co6] 26 (0,0)) (bL Bb.out) hg (Kd.R_ne Ba.out Bb.out (by decide)));have n4_:=Am (blk_grown (g:=Bf) (o:=.cells #[.slice none 0 0,.slice none 0 0,.slice none 0 0] 26 (0,0)) (bL Bd.out) hg (Kd.R_ne Ba.out Bd.out (by decide)));have n5_:=Am ((by rw [hw];exact bS (HB.out) GB58.out:Below w0.heap.size w0 w105));have n6_:=Am (Kept.of_grown (S:=(fun k_=>P0_0_ k_∨P0_1_ k_∨P0_2_ k_)) hg (by repeat (first|(with_reducible first|exact HK.out|apply Kept.alloc|apply Kept.drewN|apply Kept.drew|refine Kept.setCell ?_ (.inr Bh.out) _|refine Kept.setCell ?_ (.inr Bi.out) _)|exact HK.out)) (fun k_ e_=>(Ba.out.1 k_ e_).1));clear Ba Bc Be Bb Bd HB HK;revert n0_ n1_ n2_ n3_ n4_ n5_ n6_;intro Ba Bc Be Bb Bd HB HK;clear hg hw hp_;have BG:=cz0 Bb.out;have BH:=cz1 Bb.out;have BI:=cz2 Bb.out;have BJ:=bF Bb.out 0;have BK:=bF Bb.out 1;have BL:=bF Bb.out 2)|((with_reducible refine gate_callee (f:=50) rfl ?_);refine goesL_ (some 22) rfl rfl Try.func50 (by kernel_rfl) rfl #[.agg #[.slice (some ⟨go58,0,none⟩) y283.length co4,.slice Ao5 l0_1.length co5,.slice Ao6 l0_2.length co6],.int .i64 a1] rfl (by (try simp only [lM,lC,lN]);first|done|(rw [show y283.length=l0_0.length from (Kd.R_reads' Ba.out).1.symm] <;> rfl)|rfl|(simp only [lD,lT];rfl)) ?_;(with_reducible refine (spec_l10Does.calls kj2 _ _ y283 _ _ l0_1 _ _ l0_2 a1 t284 _ ?side1 ?side2 ?side3 ?side4 ?side5 ?side6 A61.out).mono ?_);(case side1=>exact cL (Kd.R_reads' Ba.out).2.2);(case side2=>rw [show y283.length=l0_0.length from (Kd.R_reads' Ba.out).1.symm];exact (Kd.R_reads' Ba.out).2.1);(case side3=>exact cL (Kd.R_reads' Bc.out).2.2);(case side4=>exact (Kd.R_reads' Bc.out).2.1);(case side5=>exact cL (Kd.R_reads' Be.out).2.2);(case side6=>exact (Kd.R_reads' Be.out).2.1);rintro e w107 ⟨rfl,hb⟩;refine ⟨_,rfl,?_⟩;have n0_:=Am (rB (rL Ba.out) hb);have n1_:=Am (rB (rL Bc.out) hb);have n2_:=Am (rB (rL Be.out) hb);have n3_:=Am (bX Bb.out hb);have n4_:=Am (bX Bd.out hb);have n5_:=Am (Kept.below (S:=(fun k_=>P0_0_ k_∨P0_1_ k_∨P0_2_ k_)) (by repeat (first|(with_reducible first|exact HK.out|apply Kept.alloc|apply Kept.drewN|apply Kept.drew|refine Kept.setCell ?_ (.inr Bh.out) _|refine Kept.setCell ?_ (.inr Bi.out) _)|exact HK.out)) hb);have n6_:=Am (bP (by repeat (first|(with_reducible first|exact HB.out|apply oA|apply pN|apply o1|refine bS ?_ Bj.out|refine bS ?_ Bk.out)|exact HB.out)) hb);clear Ba Bc Be Bb Bd HK HB;revert n0_ n1_ n2_ n3_ n4_ n5_ n6_;intro Ba Bc Be Bb Bd HK HB;(try clear hb);(try clear hb2);(try clear hk);(try clear hi);have BM:=cz0 Bb.out;have BN:=cz1 Bb.out;have BO:=cz2 Bb.out;have BP:=bF Bb.out 0;have BQ:=bF Bb.out 1;have BR:=bF Bb.out 2;have p98:0≤((ji95):Int):=of_decide_eq_true (by first|(with_reducible assumption)|assumption);have q98:((ji95):Int)<((l0_0.length:Int):Int):=of_decide_eq_true (by first|(with_reducible assumption)|assumption);obtain ⟨hx98_0,hf98_0⟩:=Kd.R_celln false Ba.out ((ji95):Int) p98 q98;replace p98:=eq_true p98;replace q98:=eq_true q98;obtain ⟨hy109_,hz109_⟩:=Kd.R_celln false Ba.out ((ji95):Int) (of_decide_eq_true (by first|(with_reducible assumption)|assumption)) (of_decide_eq_true (by first|(with_reducible assumption)|assumption));have HP109:=Kd.R_putg Ba.out ((ji95):Int) true)|((with_reducible refine gate_store (t:=4) (p:=36) rfl ?_);refine store_event (t:=4) (p:=36) (v:=?vo_w110) (w1:=(w107.setCell ⟨go58,((ji95):Int).toNat,none⟩ (.bool true))) ?hg ?ho ?hn ?hr ?_;(case ho=>rfl);(case hg=>rfl);(case hn=>rfl);(case hr=>first|(go_simp;done)|(go_simp;rfl));intro w110 hw;have hg:w107.grownBy w110 (some go58):=(by rw [hw];exact HP109.2);have hp_:Kd.R Kd.bool 4 w110 w0.heap.size (fun k_=>((P0_0_ k_∨P0_1_ k_∨P0_2_ k_)∨w.heap.size≤k_)∧some k_≠(.slice Ao5 l0_1.length co5:Value).ownBlock) (.slice (some ⟨go58,0,none⟩) l0_0.length co4) y287:=(by rw [hw,Ny287.out];exact HP109.1);clear HP109;have n0_:=Am (hp_);have n1_:=Am (Kd.R_after (v:=(.slice (some ⟨go58,0,none⟩) l0_0.length co4)) (v1:=(.slice (some ⟨go58,0,none⟩) l0_0.length co4)) (ok:=(fun k_=>((P0_0_ k_∨P0_1_ k_∨P0_2_ k_)∨w.heap.size≤k_))) (rL Bc.out) hg (.inl rfl));have n2_:=Am (Kd.R_over' (v:=(.slice (some ⟨go58,0,none⟩) l0_0.length co4)) (rL Be.out) (Kd.R_typed Ba.out) (by decide) hg);have n3_:=Am (blk_grown (g:=Bg) (o:=.cells #[.slice (some ⟨go58,0,none⟩) l0_0.length co4,.slice Ao5 l0_1.length co5,.slice Ao6 l0_2.length co6] 26 (0,0)) (bL Bb.out) hg (Kd.R_ne Ba.out Bb.out (by decide)));have n4_:=Am (blk_grown (g:=Bf) (o:=.cells #[.slice none 0 0,.slice none 0 0,.slice none 0 0] 26 (0,0)) (bL Bd.out) hg (Kd.R_ne Ba.out Bd.out (by decide)));have n5_:=Am ((by rw [hw];exact bS (HB.out) GB58.out:Below w0.heap.size w0 w110));have n6_:=Am (Kept.of_grown (S:=(fun k_=>P0_0_ k_∨P0_1_ k_∨P0_2_ k_)) hg (by repeat (first|(with_reducible first|exact HK.out|apply Kept.alloc|apply Kept.drewN|apply Kept.drew|refine Kept.setCell ?_ (.inr Bh.out) _|refine Kept.setCell ?_ (.inr Bi.out) _)|exact HK.out)) (fun k_ e_=>(Ba.out.1 k_ e_).1));clear Ba Bc Be Bb Bd HB HK;revert n0_ n1_ n2_ n3_ n4_ n5_ n6_;intro Ba Bc Be Bb Bd HB HK;clear hg hw hp_;have BS:=cz0 Bb.out;have BT:=cz1 Bb.out;have BU:=cz2 Bb.out;have BV:=bF Bb.out 0;have BW:=bF Bb.out 1;have BX:=bF Bb.out 2;have BY:=cz0 Bd.out;have BZ:=cz1 Bd.out;have B0:=cz2 Bd.out;have B1:=bF Bd.out 0;have B2:=bF Bd.out 1;have B3:=bF Bd.out 2))
    refine bodyPost_ret (results_cell_row rfl _ _ Bf 26 #[.slice (some ⟨go58,0,none⟩) l0_0.length co4,.slice Ao5 l0_1.length co5,.slice Ao6 l0_2.length co6] (0,0) _ rfl (by (with_reducible repeat (first|refine bN ?_ _|refine bD ?_|refine bA ?_ _));refine blk_put (cs:=#[.slice (some ⟨go58,0,none⟩) l0_0.length co4,.slice Ao5 l0_1.length co5,.slice none 0 0]) ?_ 2 _ rfl;(with_reducible repeat (first|refine bN ?_ _|refine bD ?_|refine bA ?_ _));refine blk_put (cs:=#[.slice (some ⟨go58,0,none⟩) l0_0.length co4,.slice none 0 0,.slice none 0 0]) ?_ 1 _ rfl;(with_reducible repeat (first|refine bN ?_ _|refine bD ?_|refine bA ?_ _));refine blk_put (cs:=#[.slice none 0 0,.slice none 0 0,.slice none 0 0]) ?_ 0 _ rfl;(with_reducible repeat (first|refine bN ?_ _|refine bD ?_|refine bA ?_ _));exact Bd.out) Try.underlying26 rfl (by kernel_rfl)) rfl ?_
    exact ⟨_,_,_,by first|rfl|(simp [errW_none,errW_some] <;> rfl)|(simp only [← hji95];first|rfl|(simp [errW_none,errW_some] <;> rfl))|(simp [*,errW_none,errW_some] <;> rfl),by (with_reducible repeat (first|apply rA|apply rN|apply rD));exact rM (rF (p:=⟨Bf,2,none⟩) (rF (p:=⟨Bf,1,none⟩) (rF (p:=⟨Bf,0,none⟩) (rT Ba.out Bd.out (by decide)) (fun _ hk=>hk.2) (.slice (some ⟨go58,0,none⟩) l0_0.length co4)) (fun _ hk=>hk.2) (.slice Ao5 l0_1.length co5)) (fun _ hk=>hk.2) (.slice Ao6 l0_2.length co6)) (fun _ hk=>⟨hk.1.1,hk.1.2⟩),by (with_reducible repeat (first|apply rA|apply rN|apply rD));exact rM (rF (p:=⟨Bf,2,none⟩) (rF (p:=⟨Bf,1,none⟩) (rF (p:=⟨Bf,0,none⟩) (rT Bc.out Bd.out (by decide)) (fun _ hk=>hk.2) (.slice (some ⟨go58,0,none⟩) l0_0.length co4)) (fun _ hk=>hk.2) (.slice Ao5 l0_1.length co5)) (fun _ hk=>hk.2) (.slice Ao6 l0_2.length co6)) (fun _ hk=>⟨hk.1.1,hk.1.2⟩),by (with_reducible repeat (first|apply rA|apply rN|apply rD));exact rM (rF (p:=⟨Bf,2,none⟩) (rF (p:=⟨Bf,1,none⟩) (rF (p:=⟨Bf,0,none⟩) (rT Be.out Bd.out (by decide)) (fun _ hk=>hk.2) (.slice (some ⟨go58,0,none⟩) l0_0.length co4)) (fun _ hk=>hk.2) (.slice Ao5 l0_1.length co5)) (fun _ hk=>hk.2) (.slice Ao6 l0_2.length co6)) (fun _ hk=>hk.1),by repeat (first|(with_reducible first|exact HB.out|apply oA|apply pN|apply o1|refine bS ?_ Bj.out|refine bS ?_ Bk.out)|exact HB.out),by repeat (first|(with_reducible first|exact HK.out|apply Kept.alloc|apply Kept.drewN|apply Kept.drew|refine Kept.setCell ?_ (.inr Bh.out) _|refine Kept.setCell ?_ (.inr Bi.out) _)|exact HK.out)⟩
   rw [if_pos c62] at H
   have c62b0:(t284 == 1)=true:=beq_iff_eq.mpr c62
   have c62b1:(t284 != 1)=false:=bne_eq_false_iff_eq.mpr c62
   clear c62
   obtain ⟨ji63,hji63⟩:∃ j_:Int,(wrap64 (a1 - 1))=j_:=⟨_,rfl⟩
   replace H:(if 0≤(ji63) then (if (ji63)<(l0_1.length:Int) then (if rdOf false l0_1 (ji63)=true then (if (ji63)<(l0_0.length:Int) then (some ((y283.set ((ji63):Int).toNat true),l0_1,l0_2)) else (none)) else (some (y283,l0_1,l0_2))) else (none)) else (none))=some (r1,r2,r3):=by first|(rw [hji63] at H;exact H)|(simp only [hji63] at H ⊢;exact H)
   (try rw [hji63] at A61)
   have hji63w:(IntKind.i64.wrap (a1 - 1))=ji63:=(i64_w _).trans hji63
   by_cases c64:0≤(ji63)
   rotate_left
   ·rw [if_neg c64] at H
    exact absurd H (by simp)
   rw [if_pos c64] at H
   have c64b0:decide (0≤(ji63))=true:=decide_eq_true c64
   clear c64
   by_cases c65:(ji63)<(l0_1.length:Int)
   rotate_left
   ·rw [if_neg c65] at H
    exact absurd H (by simp)
   rw [if_pos c65] at H
   have c65b0:decide ((ji63)<(l0_1.length:Int))=true:=decide_eq_true c65
   clear c65
   obtain ⟨bq66,hbq66⟩:∃ b_:Bool,b_=(rdOf false l0_1 (ji63)):=⟨_,rfl⟩
   replace H:(if bq66=true then (if (ji63)<(l0_0.length:Int) then (some ((y283.set ((ji63):Int).toNat true),l0_1,l0_2)) else (none)) else (some (y283,l0_1,l0_2)))=some (r1,r2,r3):=by rw [← hbq66] at H;exact H
   have Nbq66:=Am hbq66
   clear hbq66
   by_cases c67:bq66=true
   rotate_left
   ·replace c67:=Bool.eq_false_iff.mpr c67
    subst c67
    have H1:(some (y283,l0_1,l0_2))=some (r1,r2,r3):=by rw [if_neg (show ¬ (false=true) by decide)] at H;exact H
    clear H
    have H:=H1
    clear H1
    simp only [Option.some.injEq,Prod.mk.injEq] at H
    obtain ⟨rfl,rfl,rfl⟩:=H
    have JN:=Bl.out
    have JO:=Bm.out
    have G5:=cz0 Bb.out
    have G6:=cz1 Bb.out
    have G7:=cz2 Bb.out
    have G8:=bF Bb.out 0
    have G9:=bF Bb.out 1
    have Ja:=bF Bb.out 2
    have p58:0≤(1:Int):=(by omega)
    have q58:(1:Int)<((l0_0.length:Int):Int):=of_decide_eq_true (by first|(with_reducible assumption)|assumption)
    have qi58:(1<l0_0.length)=True:=eq_true (by omega)
    obtain ⟨go58,co58,eo58,Br,gl58,cl58,HG58⟩:=Kd.R_form Ba.out (by omega)
    (first|cases eo58|(injection eo58 with ea_ en_ ec_;(first|subst ea_|(injection ea_ with ea_;subst ea_));subst ec_;clear en_))
    have GB58:=Am Br
    have GG58:=Am HG58
    clear Br gl58 HG58
    have HMgo58:=Am (show ((P0_0_ go58∨P0_1_ go58∨P0_2_ go58)∨w.heap.size≤go58) from (Ba.out.1 _ rfl).1)
    obtain ⟨hx58_0,hf58_0⟩:=Kd.R_celln false Ba.out (1:Int) p58 q58
    (try rw [show ((1:Int)).toNat=1 from rfl] at hx58_0)
    (try simp only [Nat.reduceMul,Nat.zero_mul,Nat.zero_add,Nat.reduceAdd] at hx58_0)
    (try rw [show ((1:Int)).toNat=1 from rfl] at hf58_0)
    (try simp only [Nat.reduceMul,Nat.zero_mul,Nat.zero_add,Nat.reduceAdd] at hf58_0)
    replace p58:=eq_true p58
    replace q58:=eq_true q58
    have HP86:=Kd.R_putg Ba.out (1:Int) false
    go_wp2_with (first|((with_reducible refine gate_store (t:=4) (p:=16) rfl ?_);refine store_event (t:=4) (p:=16) (v:=?vo_w87) (w1:=(wc.setCell ⟨go58,(1:Int).toNat,none⟩ (.bool false))) ?hg ?ho ?hn ?hr ?_;(case ho=>rfl);(case hg=>rfl);(case hn=>rfl);(case hr=>first|(go_simp;done)|(go_simp;rfl));intro w87 hw;have hg:wc.grownBy w87 (some go58):=(by rw [hw];exact HP86.2);have hp_:Kd.R Kd.bool 4 w87 w0.heap.size (fun k_=>((P0_0_ k_∨P0_1_ k_∨P0_2_ k_)∨w.heap.size≤k_)∧some k_≠(.slice Ao5 l0_1.length co5:Value).ownBlock) (.slice (some ⟨go58,0,none⟩) l0_0.length co4) y282:=(by rw [hw,Ny282.out];exact HP86.1);clear HP86;have n0_:=Am (hp_);have n1_:=Am (Kd.R_after (v:=(.slice (some ⟨go58,0,none⟩) l0_0.length co4)) (v1:=(.slice (some ⟨go58,0,none⟩) l0_0.length co4)) (ok:=(fun k_=>((P0_0_ k_∨P0_1_ k_∨P0_2_ k_)∨w.heap.size≤k_))) (rL Bc.out) hg (.inl rfl));have n2_:=Am (Kd.R_over' (v:=(.slice (some ⟨go58,0,none⟩) l0_0.length co4)) (rL Be.out) (Kd.R_typed Ba.out) (by decide) hg);have n3_:=Am (blk_grown (g:=Bg) (o:=.cells #[.slice (some ⟨go58,0,none⟩) l0_0.length co4,.slice Ao5 l0_1.length co5,.slice Ao6 l0_2.length co6] 26 (0,0)) (bL Bb.out) hg (Kd.R_ne Ba.out Bb.out (by decide)));have n4_:=Am (blk_grown (g:=Bf) (o:=.cells #[.slice none 0 0,.slice none 0 0,.slice none 0 0] 26 (0,0)) (bL Bd.out) hg (Kd.R_ne Ba.out Bd.out (by decide)));have n5_:=Am ((by rw [hw];exact bS (HB.out) GB58.out:Below w0.heap.size w0 w87));have n6_:=Am (Kept.of_grown (S:=(fun k_=>P0_0_ k_∨P0_1_ k_∨P0_2_ k_)) hg (by repeat (first|(with_reducible first|exact HK.out|apply Kept.alloc|apply Kept.drewN|apply Kept.drew|refine Kept.setCell ?_ (.inr Bh.out) _|refine Kept.setCell ?_ (.inr Bi.out) _)|exact HK.out)) (fun k_ e_=>(Ba.out.1 k_ e_).1));clear Ba Bc Be Bb Bd HB HK;revert n0_ n1_ n2_ n3_ n4_ n5_ n6_;intro Ba Bc Be Bb Bd HB HK;clear hg hw hp_;have Jb:=cz0 Bb.out;have Jc:=cz1 Bb.out;have Jd:=cz2 Bb.out;have Je:=bF Bb.out 0;have Jf:=bF Bb.out 1;have Jg:=bF Bb.out 2;have p60:0≤(5:Int):=(by omega);have q60:(5:Int)<((l0_0.length:Int):Int):=of_decide_eq_true (by first|(with_reducible assumption)|assumption);have qi60:(5<l0_0.length)=True:=eq_true (by omega);obtain ⟨hx60_0,hf60_0⟩:=Kd.R_celln false Ba.out (5:Int) p60 q60;(try rw [show ((5:Int)).toNat=5 from rfl] at hx60_0);(try simp only [Nat.reduceMul,Nat.zero_mul,Nat.zero_add,Nat.reduceAdd] at hx60_0);(try rw [show ((5:Int)).toNat=5 from rfl] at hf60_0);(try simp only [Nat.reduceMul,Nat.zero_mul,Nat.zero_add,Nat.reduceAdd] at hf60_0);replace p60:=eq_true p60;replace q60:=eq_true q60;obtain ⟨hy89_,hz89_⟩:=Kd.R_celln false Ba.out (5:Int) (by omega) (of_decide_eq_true (by first|(with_reducible assumption)|assumption));(try simp only [Int.reduceToNat,Int.toNat_zero,Int.toNat_ofNat,Nat.reduceMul,Nat.zero_mul,Nat.zero_add] at hy89_ hz89_);(try rw [show ((5:Int)).toNat=5 from rfl] at hy89_);(try rw [show ((5:Int)).toNat=5 from rfl] at hz89_);have HP89:=Kd.R_putg Ba.out (5:Int) false)|((with_reducible refine gate_store (t:=4) (p:=19) rfl ?_);refine store_event (t:=4) (p:=19) (v:=?vo_w90) (w1:=(w87.setCell ⟨go58,(5:Int).toNat,none⟩ (.bool false))) ?hg ?ho ?hn ?hr ?_;(case ho=>rfl);(case hg=>rfl);(case hn=>rfl);(case hr=>first|(go_simp;done)|(go_simp;rfl));intro w90 hw;have hg:w87.grownBy w90 (some go58):=(by rw [hw];exact HP89.2);have hp_:Kd.R Kd.bool 4 w90 w0.heap.size (fun k_=>((P0_0_ k_∨P0_1_ k_∨P0_2_ k_)∨w.heap.size≤k_)∧some k_≠(.slice Ao5 l0_1.length co5:Value).ownBlock) (.slice (some ⟨go58,0,none⟩) l0_0.length co4) y283:=(by rw [hw,Ny283.out];exact HP89.1);clear HP89;have n0_:=Am (hp_);have n1_:=Am (Kd.R_after (v:=(.slice (some ⟨go58,0,none⟩) l0_0.length co4)) (v1:=(.slice (some ⟨go58,0,none⟩) l0_0.length co4)) (ok:=(fun k_=>((P0_0_ k_∨P0_1_ k_∨P0_2_ k_)∨w.heap.size≤k_))) (rL Bc.out) hg (.inl rfl));have n2_:=Am (Kd.R_over' (v:=(.slice (some ⟨go58,0,none⟩) l0_0.length co4)) (rL Be.out) (Kd.R_typed Ba.out) (by decide) hg);have n3_:=Am (blk_grown (g:=Bg) (o:=.cells #[.slice (some ⟨go58,0,none⟩) l0_0.length co4,.slice Ao5 l0_1.length co5,.slice Ao6 l0_2.length co6] 26 (0,0)) (bL Bb.out) hg (Kd.R_ne Ba.out Bb.out (by decide)));have n4_:=Am (blk_grown (g:=Bf) (o:=.cells #[.slice none 0 0,.slice none 0 0,.slice none 0 0] 26 (0,0)) (bL Bd.out) hg (Kd.R_ne Ba.out Bd.out (by decide)));have n5_:=Am ((by rw [hw];exact bS (HB.out) GB58.out:Below w0.heap.size w0 w90));have n6_:=Am (Kept.of_grown (S:=(fun k_=>P0_0_ k_∨P0_1_ k_∨P0_2_ k_)) hg (by repeat (first|(with_reducible first|exact HK.out|apply Kept.alloc|apply Kept.drewN|apply Kept.drew|refine Kept.setCell ?_ (.inr Bh.out) _|refine Kept.setCell ?_ (.inr Bi.out) _)|exact HK.out)) (fun k_ e_=>(Ba.out.1 k_ e_).1));clear Ba Bc Be Bb Bd HB HK;revert n0_ n1_ n2_ n3_ n4_ n5_ n6_;intro Ba Bc Be Bb Bd HB HK;clear hg hw hp_;have Jh:=cz0 Bb.out;have Ji:=cz1 Bb.out;have Jj:=cz2 Bb.out;have Jk:=bF Bb.out 0;have Jl:=bF Bb.out 1;have Jm:=bF Bb.out 2)|((with_reducible refine gate_callee (f:=50) rfl ?_);refine goesL_ (some 22) rfl rfl Try.func50 (by kernel_rfl) rfl #[.agg #[.slice (some ⟨go58,0,none⟩) y283.length co4,.slice Ao5 l0_1.length co5,.slice Ao6 l0_2.length co6],.int .i64 a1] rfl (by (try simp only [lM,lC,lN]);first|done|(rw [show y283.length=l0_0.length from (Kd.R_reads' Ba.out).1.symm] <;> rfl)|rfl|(simp only [lD,lT];rfl)) ?_;(with_reducible refine (spec_l10Does.calls kj2 _ _ y283 _ _ l0_1 _ _ l0_2 a1 t284 _ ?side1 ?side2 ?side3 ?side4 ?side5 ?side6 A61.out).mono ?_);(case side1=>exact cL (Kd.R_reads' Ba.out).2.2);(case side2=>rw [show y283.length=l0_0.length from (Kd.R_reads' Ba.out).1.symm];exact (Kd.R_reads' Ba.out).2.1);(case side3=>exact cL (Kd.R_reads' Bc.out).2.2);(case side4=>exact (Kd.R_reads' Bc.out).2.1);(case side5=>exact cL (Kd.R_reads' Be.out).2.2);(case side6=>exact (Kd.R_reads' Be.out).2.1);rintro e w92 ⟨rfl,hb⟩;refine ⟨_,rfl,?_⟩;have n0_:=Am (rB (rL Ba.out) hb);have n1_:=Am (rB (rL Bc.out) hb);have n2_:=Am (rB (rL Be.out) hb);have n3_:=Am (bX Bb.out hb);have n4_:=Am (bX Bd.out hb);have n5_:=Am (Kept.below (S:=(fun k_=>P0_0_ k_∨P0_1_ k_∨P0_2_ k_)) (by repeat (first|(with_reducible first|exact HK.out|apply Kept.alloc|apply Kept.drewN|apply Kept.drew|refine Kept.setCell ?_ (.inr Bh.out) _|refine Kept.setCell ?_ (.inr Bi.out) _)|exact HK.out)) hb);have n6_:=Am (bP (by repeat (first|(with_reducible first|exact HB.out|apply oA|apply pN|apply o1|refine bS ?_ Bj.out|refine bS ?_ Bk.out)|exact HB.out)) hb);clear Ba Bc Be Bb Bd HK HB;revert n0_ n1_ n2_ n3_ n4_ n5_ n6_;intro Ba Bc Be Bb Bd HK HB;(try clear hb);(try clear hb2);(try clear hk);(try clear hi);have Jn:=cz0 Bb.out;have Jo:=cz1 Bb.out;have Jp:=cz2 Bb.out;have Jq:=bF Bb.out 0;have Jr:=bF Bb.out 1;have Js:=bF Bb.out 2;have p285:0≤((ji63):Int):=of_decide_eq_true (by first|(with_reducible assumption)|assumption);have q285:(ji63)<(l0_1.length:Int):=of_decide_eq_true (by first|(with_reducible assumption)|assumption);obtain ⟨ad285,e285,hx285_0⟩:=Kd.at_bool (Kd.R_reads' Bc.out).2.2 (ji63) p285 q285;(try rw [← Nbq66.out] at hx285_0);cases e285;replace p285:=eq_true p285;replace q285:=eq_true q285;have Jt:=cz0 Bd.out;have Ju:=cz1 Bd.out;have Jv:=cz2 Bd.out;have Jw:=bF Bd.out 0;have Jx:=bF Bd.out 1;have Jy:=bF Bd.out 2))
    refine bodyPost_ret (results_cell_row rfl _ _ Bf 26 #[.slice (some ⟨go58,0,none⟩) l0_0.length co4,.slice (some ad285) l0_1.length co5,.slice Ao6 l0_2.length co6] (0,0) _ rfl (by (with_reducible repeat (first|refine bN ?_ _|refine bD ?_|refine bA ?_ _));refine blk_put (cs:=#[.slice (some ⟨go58,0,none⟩) l0_0.length co4,.slice (some ad285) l0_1.length co5,.slice none 0 0]) ?_ 2 _ rfl;(with_reducible repeat (first|refine bN ?_ _|refine bD ?_|refine bA ?_ _));refine blk_put (cs:=#[.slice (some ⟨go58,0,none⟩) l0_0.length co4,.slice none 0 0,.slice none 0 0]) ?_ 1 _ rfl;(with_reducible repeat (first|refine bN ?_ _|refine bD ?_|refine bA ?_ _));refine blk_put (cs:=#[.slice none 0 0,.slice none 0 0,.slice none 0 0]) ?_ 0 _ rfl;(with_reducible repeat (first|refine bN ?_ _|refine bD ?_|refine bA ?_ _));exact Bd.out) Try.underlying26 rfl (by kernel_rfl)) rfl ?_
    exact ⟨_,_,_,by first|rfl|(simp [errW_none,errW_some] <;> rfl)|(simp only [← hji63];first|rfl|(simp [errW_none,errW_some] <;> rfl))|(simp [*,errW_none,errW_some] <;> rfl),by (with_reducible repeat (first|apply rA|apply rN|apply rD));exact rM (rF (p:=⟨Bf,2,none⟩) (rF (p:=⟨Bf,1,none⟩) (rF (p:=⟨Bf,0,none⟩) (rT Ba.out Bd.out (by decide)) (fun _ hk=>hk.2) (.slice (some ⟨go58,0,none⟩) l0_0.length co4)) (fun _ hk=>hk.2) (.slice (some ad285) l0_1.length co5)) (fun _ hk=>hk.2) (.slice Ao6 l0_2.length co6)) (fun _ hk=>⟨hk.1.1,hk.1.2⟩),by (with_reducible repeat (first|apply rA|apply rN|apply rD));exact rM (rF (p:=⟨Bf,2,none⟩) (rF (p:=⟨Bf,1,none⟩) (rF (p:=⟨Bf,0,none⟩) (rT Bc.out Bd.out (by decide)) (fun _ hk=>hk.2) (.slice (some ⟨go58,0,none⟩) l0_0.length co4)) (fun _ hk=>hk.2) (.slice (some ad285) l0_1.length co5)) (fun _ hk=>hk.2) (.slice Ao6 l0_2.length co6)) (fun _ hk=>⟨hk.1.1,hk.1.2⟩),by (with_reducible repeat (first|apply rA|apply rN|apply rD));exact rM (rF (p:=⟨Bf,2,none⟩) (rF (p:=⟨Bf,1,none⟩) (rF (p:=⟨Bf,0,none⟩) (rT Be.out Bd.out (by decide)) (fun _ hk=>hk.2) (.slice (some ⟨go58,0,none⟩) l0_0.length co4)) (fun _ hk=>hk.2) (.slice (some ad285) l0_1.length co5)) (fun _ hk=>hk.2) (.slice Ao6 l0_2.length co6)) (fun _ hk=>hk.1),by repeat (first|(with_reducible first|exact HB.out|apply oA|apply pN|apply o1|refine bS ?_ Bj.out|refine bS ?_ Bk.out)|exact HB.out),by repeat (first|(with_reducible first|exact HK.out|apply Kept.alloc|apply Kept.drewN|apply Kept.drew|refine Kept.setCell ?_ (.inr Bh.out) _|refine Kept.setCell ?_ (.inr Bi.out) _)|exact HK.out)⟩
   subst c67
   have H1:(if (ji63)<(l0_0.length:Int) then (some ((y283.set ((ji63):Int).toNat true),l0_1,l0_2)) else (none))=some (r1,r2,r3):=by rw [if_pos rfl] at H;exact H
   clear H
   have H:=H1
   clear H1
   by_cases c68:(ji63)<(l0_0.length:Int)
   rotate_left
   ·rw [if_neg c68] at H
    exact absurd H (by simp)
   rw [if_pos c68] at H
   have c68b0:decide ((ji63)<(l0_0.length:Int))=true:=decide_eq_true c68
   clear c68
   obtain ⟨y286,hy286⟩:∃ y_:List Bool,y_=(y283.set ((ji63):Int).toNat true):=⟨_,rfl⟩
   replace H:(some (y286,l0_1,l0_2))=some (r1,r2,r3):=by first|(rw [hy286];with_reducible exact H)|(have H2_:=(Option.bind_some _ _).symm.trans H;rw [hy286];with_reducible exact H2_)|(have H2_:=(Option.bind_some _ _).symm.trans H;with_reducible exact H2_)|with_reducible exact H|(rw [hy286];exact H)|exact H
   have Ny286:=Am hy286
   clear hy286
   simp only [Option.some.injEq,Prod.mk.injEq] at H
   obtain ⟨rfl,rfl,rfl⟩:=H
   have JL:=Bl.out
   have JM:=Bm.out
   have Gv:=cz0 Bb.out
   have Gw:=cz1 Bb.out
   have Gx:=cz2 Bb.out
   have Gy:=bF Bb.out 0
   have Gz:=bF Bb.out 1
   have GA:=bF Bb.out 2
   have p58:0≤(1:Int):=(by omega)
   have q58:(1:Int)<((l0_0.length:Int):Int):=of_decide_eq_true (by first|(with_reducible assumption)|assumption)
   have qi58:(1<l0_0.length)=True:=eq_true (by omega)
   obtain ⟨go58,co58,eo58,Br,gl58,cl58,HG58⟩:=Kd.R_form Ba.out (by omega)
   (first|cases eo58|(injection eo58 with ea_ en_ ec_;(first|subst ea_|(injection ea_ with ea_;subst ea_));subst ec_;clear en_))
   have GB58:=Am Br
   have GG58:=Am HG58
   clear Br gl58 HG58
   have HMgo58:=Am (show ((P0_0_ go58∨P0_1_ go58∨P0_2_ go58)∨w.heap.size≤go58) from (Ba.out.1 _ rfl).1)
   obtain ⟨hx58_0,hf58_0⟩:=Kd.R_celln false Ba.out (1:Int) p58 q58
   (try rw [show ((1:Int)).toNat=1 from rfl] at hx58_0)
   (try simp only [Nat.reduceMul,Nat.zero_mul,Nat.zero_add,Nat.reduceAdd] at hx58_0)
   (try rw [show ((1:Int)).toNat=1 from rfl] at hf58_0)
   (try simp only [Nat.reduceMul,Nat.zero_mul,Nat.zero_add,Nat.reduceAdd] at hf58_0)
   replace p58:=eq_true p58
   replace q58:=eq_true q58
   have HP72:=Kd.R_putg Ba.out (1:Int) false
   go_wp2_with (first|((with_reducible refine gate_store (t:=4) (p:=16) rfl ?_);refine store_event (t:=4) (p:=16) (v:=?vo_w73) (w1:=(wc.setCell ⟨go58,(1:Int).toNat,none⟩ (.bool false))) ?hg ?ho ?hn ?hr ?_;(case ho=>rfl);(case hg=>rfl);(case hn=>rfl);(case hr=>first|(go_simp;done)|(go_simp;rfl));intro w73 hw;have hg:wc.grownBy w73 (some go58):=(by rw [hw];exact HP72.2);have hp_:Kd.R Kd.bool 4 w73 w0.heap.size (fun k_=>((P0_0_ k_∨P0_1_ k_∨P0_2_ k_)∨w.heap.size≤k_)∧some k_≠(.slice Ao5 l0_1.length co5:Value).ownBlock) (.slice (some ⟨go58,0,none⟩) l0_0.length co4) y282:=(by rw [hw,Ny282.out];exact HP72.1);clear HP72;have n0_:=Am (hp_);have n1_:=Am (Kd.R_after (v:=(.slice (some ⟨go58,0,none⟩) l0_0.length co4)) (v1:=(.slice (some ⟨go58,0,none⟩) l0_0.length co4)) (ok:=(fun k_=>((P0_0_ k_∨P0_1_ k_∨P0_2_ k_)∨w.heap.size≤k_))) (rL Bc.out) hg (.inl rfl));have n2_:=Am (Kd.R_over' (v:=(.slice (some ⟨go58,0,none⟩) l0_0.length co4)) (rL Be.out) (Kd.R_typed Ba.out) (by decide) hg);have n3_:=Am (blk_grown (g:=Bg) (o:=.cells #[.slice (some ⟨go58,0,none⟩) l0_0.length co4,.slice Ao5 l0_1.length co5,.slice Ao6 l0_2.length co6] 26 (0,0)) (bL Bb.out) hg (Kd.R_ne Ba.out Bb.out (by decide)));have n4_:=Am (blk_grown (g:=Bf) (o:=.cells #[.slice none 0 0,.slice none 0 0,.slice none 0 0] 26 (0,0)) (bL Bd.out) hg (Kd.R_ne Ba.out Bd.out (by decide)));have n5_:=Am ((by rw [hw];exact bS (HB.out) GB58.out:Below w0.heap.size w0 w73));have n6_:=Am (Kept.of_grown (S:=(fun k_=>P0_0_ k_∨P0_1_ k_∨P0_2_ k_)) hg (by repeat (first|(with_reducible first|exact HK.out|apply Kept.alloc|apply Kept.drewN|apply Kept.drew|refine Kept.setCell ?_ (.inr Bh.out) _|refine Kept.setCell ?_ (.inr Bi.out) _)|exact HK.out)) (fun k_ e_=>(Ba.out.1 k_ e_).1));clear Ba Bc Be Bb Bd HB HK;revert n0_ n1_ n2_ n3_ n4_ n5_ n6_;intro Ba Bc Be Bb Bd HB HK;clear hg hw hp_;have GB:=cz0 Bb.out;have GC:=cz1 Bb.out;have GD:=cz2 Bb.out;have GE:=bF Bb.out 0;have GF:=bF Bb.out 1;have GG:=bF Bb.out 2;have p60:0≤(5:Int):=(by omega);have q60:(5:Int)<((l0_0.length:Int):Int):=of_decide_eq_true (by first|(with_reducible assumption)|assumption);have qi60:(5<l0_0.length)=True:=eq_true (by omega);obtain ⟨hx60_0,hf60_0⟩:=Kd.R_celln false Ba.out (5:Int) p60 q60;(try rw [show ((5:Int)).toNat=5 from rfl] at hx60_0);(try simp only [Nat.reduceMul,Nat.zero_mul,Nat.zero_add,Nat.reduceAdd] at hx60_0);(try rw [show ((5:Int)).toNat=5 from rfl] at hf60_0);(try simp only [Nat.reduceMul,Nat.zero_mul,Nat.zero_add,Nat.reduceAdd] at hf60_0);replace p60:=eq_true p60;replace q60:=eq_true q60;obtain ⟨hy75_,hz75_⟩:=Kd.R_celln false Ba.out (5:Int) (by omega) (of_decide_eq_true (by first|(with_reducible assumption)|assumption));(try simp only [Int.reduceToNat,Int.toNat_zero,Int.toNat_ofNat,Nat.reduceMul,Nat.zero_mul,Nat.zero_add] at hy75_ hz75_);(try rw [show ((5:Int)).toNat=5 from rfl] at hy75_);(try rw [show ((5:Int)).toNat=5 from rfl] at hz75_);have HP75:=Kd.R_putg Ba.out (5:Int) false)|((with_reducible refine gate_store (t:=4) (p:=19) rfl ?_);refine store_event (t:=4) (p:=19) (v:=?vo_w76) (w1:=(w73.setCell ⟨go58,(5:Int).toNat,none⟩ (.bool false))) ?hg ?ho ?hn ?hr ?_;(case ho=>rfl);(case hg=>rfl);(case hn=>rfl);(case hr=>first|(go_simp;done)|(go_simp;rfl));intro w76 hw;have hg:w73.grownBy w76 (some go58):=(by rw [hw];exact HP75.2);have hp_:Kd.R Kd.bool 4 w76 w0.heap.size (fun k_=>((P0_0_ k_∨P0_1_ k_∨P0_2_ k_)∨w.heap.size≤k_)∧some k_≠(.slice Ao5 l0_1.length co5:Value).ownBlock) (.slice (some ⟨go58,0,none⟩) l0_0.length co4) y283:=(by rw [hw,Ny283.out];exact HP75.1);clear HP75;have n0_:=Am (hp_);have n1_:=Am (Kd.R_after (v:=(.slice (some ⟨go58,0,none⟩) l0_0.length co4)) (v1:=(.slice (some ⟨go58,0,none⟩) l0_0.length co4)) (ok:=(fun k_=>((P0_0_ k_∨P0_1_ k_∨P0_2_ k_)∨w.heap.size≤k_))) (rL Bc.out) hg (.inl rfl));have n2_:=Am (Kd.R_over' (v:=(.slice (some ⟨go58,0,none⟩) l0_0.length co4)) (rL Be.out) (Kd.R_typed Ba.out) (by decide) hg);have n3_:=Am (blk_grown (g:=Bg) (o:=.cells #[.slice (some ⟨go58,0,none⟩) l0_0.length co4,.slice Ao5 l0_1.length co5,.slice Ao6 l0_2.length co6] 26 (0,0)) (bL Bb.out) hg (Kd.R_ne Ba.out Bb.out (by decide)));have n4_:=Am (blk_grown (g:=Bf) (o:=.cells #[.slice none 0 0,.slice none 0 0,.slice none 0 0] 26 (0,0)) (bL Bd.out) hg (Kd.R_ne Ba.out Bd.out (by decide)));have n5_:=Am ((by rw [hw];exact bS (HB.out) GB58.out:Below w0.heap.size w0 w76));have n6_:=Am (Kept.of_grown (S:=(fun k_=>P0_0_ k_∨P0_1_ k_∨P0_2_ k_)) hg (by repeat (first|(with_reducible first|exact HK.out|apply Kept.alloc|apply Kept.drewN|apply Kept.drew|refine Kept.setCell ?_ (.inr Bh.out) _|refine Kept.setCell ?_ (.inr Bi.out) _)|exact HK.out)) (fun k_ e_=>(Ba.out.1 k_ e_).1));clear Ba Bc Be Bb Bd HB HK;revert n0_ n1_ n2_ n3_ n4_ n5_ n6_;intro Ba Bc Be Bb Bd HB HK;clear hg hw hp_;have GH:=cz0 Bb.out;have GI:=cz1 Bb.out;have GJ:=cz2 Bb.out;have GK:=bF Bb.out 0;have GL:=bF Bb.out 1;have GM:=bF Bb.out 2)|((with_reducible refine gate_callee (f:=50) rfl ?_);refine goesL_ (some 22) rfl rfl Try.func50 (by kernel_rfl) rfl #[.agg #[.slice (some ⟨go58,0,none⟩) y283.length co4,.slice Ao5 l0_1.length co5,.slice Ao6 l0_2.length co6],.int .i64 a1] rfl (by (try simp only [lM,lC,lN]);first|done|(rw [show y283.length=l0_0.length from (Kd.R_reads' Ba.out).1.symm] <;> rfl)|rfl|(simp only [lD,lT];rfl)) ?_;(with_reducible refine (spec_l10Does.calls kj2 _ _ y283 _ _ l0_1 _ _ l0_2 a1 t284 _ ?side1 ?side2 ?side3 ?side4 ?side5 ?side6 A61.out).mono ?_);(case side1=>exact cL (Kd.R_reads' Ba.out).2.2);(case side2=>rw [show y283.length=l0_0.length from (Kd.R_reads' Ba.out).1.symm];exact (Kd.R_reads' Ba.out).2.1);(case side3=>exact cL (Kd.R_reads' Bc.out).2.2);(case side4=>exact (Kd.R_reads' Bc.out).2.1);(case side5=>exact cL (Kd.R_reads' Be.out).2.2);(case side6=>exact (Kd.R_reads' Be.out).2.1);rintro e w78 ⟨rfl,hb⟩;refine ⟨_,rfl,?_⟩;have n0_:=Am (rB (rL Ba.out) hb);have n1_:=Am (rB (rL Bc.out) hb);have n2_:=Am (rB (rL Be.out) hb);have n3_:=Am (bX Bb.out hb);have n4_:=Am (bX Bd.out hb);have n5_:=Am (Kept.below (S:=(fun k_=>P0_0_ k_∨P0_1_ k_∨P0_2_ k_)) (by repeat (first|(with_reducible first|exact HK.out|apply Kept.alloc|apply Kept.drewN|apply Kept.drew|refine Kept.setCell ?_ (.inr Bh.out) _|refine Kept.setCell ?_ (.inr Bi.out) _)|exact HK.out)) hb);have n6_:=Am (bP (by repeat (first|(with_reducible first|exact HB.out|apply oA|apply pN|apply o1|refine bS ?_ Bj.out|refine bS ?_ Bk.out)|exact HB.out)) hb);clear Ba Bc Be Bb Bd HK HB;revert n0_ n1_ n2_ n3_ n4_ n5_ n6_;intro Ba Bc Be Bb Bd HK HB;(try clear hb);(try clear hb2);(try clear hk);(try clear hi);have GN:=cz0 Bb.out;have GO:=cz1 Bb.out;have GP:=cz2 Bb.out;have GQ:=bF Bb.out 0;have GR:=bF Bb.out 1;have GS:=bF Bb.out 2;have p285:0≤((ji63):Int):=of_decide_eq_true (by first|(with_reducible assumption)|assumption);have q285:(ji63)<(l0_1.length:Int):=of_decide_eq_true (by first|(with_reducible assumption)|assumption);obtain ⟨ad285,e285,hx285_0⟩:=Kd.at_bool (Kd.R_reads' Bc.out).2.2 (ji63) p285 q285;(try rw [← Nbq66.out] at hx285_0);cases e285;replace p285:=eq_true p285;replace q285:=eq_true q285;have p69:0≤((ji63):Int):=of_decide_eq_true (by first|(with_reducible assumption)|assumption);have q69:((ji63):Int)<((l0_0.length:Int):Int):=of_decide_eq_true (by first|(with_reducible assumption)|assumption);obtain ⟨hx69_0,hf69_0⟩:=Kd.R_celln false Ba.out ((ji63):Int) p69 q69;replace p69:=eq_true p69;replace q69:=eq_true q69;obtain ⟨hy80_,hz80_⟩:=Kd.R_celln false Ba.out ((ji63):Int) (of_decide_eq_true (by first|(with_reducible assumption)|assumption)) (of_decide_eq_true (by first|(with_reducible assumption)|assumption));have HP80:=Kd.R_putg Ba.out ((ji63):Int) true)|((with_reducible refine gate_store (t:=4) (p:=36) rfl ?_);refine store_event (t:=4) (p:=36) (v:=?vo_w81) (w1:=(w78.setCell ⟨go58,((ji63):Int).toNat,none⟩ (.bool true))) ?hg ?ho ?hn ?hr ?_;(case ho=>rfl);(case hg=>rfl);(case hn=>rfl);(case hr=>first|(go_simp;done)|(go_simp;rfl));intro w81 hw;have hg:w78.grownBy w81 (some go58):=(by rw [hw];exact HP80.2);have hp_:Kd.R Kd.bool 4 w81 w0.heap.size (fun k_=>((P0_0_ k_∨P0_1_ k_∨P0_2_ k_)∨w.heap.size≤k_)∧some k_≠(.slice (some ad285) l0_1.length co5:Value).ownBlock) (.slice (some ⟨go58,0,none⟩) l0_0.length co4) y286:=(by rw [hw,Ny286.out];exact HP80.1);clear HP80;have n0_:=Am (hp_);have n1_:=Am (Kd.R_after (v:=(.slice (some ⟨go58,0,none⟩) l0_0.length co4)) (v1:=(.slice (some ⟨go58,0,none⟩) l0_0.length co4)) (ok:=(fun k_=>((P0_0_ k_∨P0_1_ k_∨P0_2_ k_)∨w.heap.size≤k_))) (rL Bc.out) hg (.inl rfl));have n2_:=Am (Kd.R_over' (v:=(.slice (some ⟨go58,0,none⟩) l0_0.length co4)) (rL Be.out) (Kd.R_typed Ba.out) (by decide) hg);have n3_:=Am (blk_grown (g:=Bg) (o:=.cells #[.slice (some ⟨go58,0,none⟩) l0_0.length co4,.slice (some ad285) l0_1.length co5,.slice Ao6 l0_2.length co6] 26 (0,0)) (bL Bb.out) hg (Kd.R_ne Ba.out Bb.out (by decide)));have n4_:=Am (blk_grown (g:=Bf) (o:=.cells #[.slice none 0 0,.slice none 0 0,.slice none 0 0] 26 (0,0)) (bL Bd.out) hg (Kd.R_ne Ba.out Bd.out (by decide)));have n5_:=Am ((by rw [hw];exact bS (HB.out) GB58.out:Below w0.heap.size w0 w81));have n6_:=Am (Kept.of_grown (S:=(fun k_=>P0_0_ k_∨P0_1_ k_∨P0_2_ k_)) hg (by repeat (first|(with_reducible first|exact HK.out|apply Kept.alloc|apply Kept.drewN|apply Kept.drew|refine Kept.setCell ?_ (.inr Bh.out) _|refine Kept.setCell ?_ (.inr Bi.out) _)|exact HK.out)) (fun k_ e_=>(Ba.out.1 k_ e_).1));clear Ba Bc Be Bb Bd HB HK;revert n0_ n1_ n2_ n3_ n4_ n5_ n6_;intro Ba Bc Be Bb Bd HB HK;clear hg hw hp_;have GT:=cz0 Bb.out;have GU:=cz1 Bb.out;have GV:=cz2 Bb.out;have GW:=bF Bb.out 0;have GX:=bF Bb.out 1;have GY:=bF Bb.out 2;have GZ:=cz0 Bd.out;have G0:=cz1 Bd.out;have G1:=cz2 Bd.out;have G2:=bF Bd.out 0;have G3:=bF Bd.out 1;have G4:=bF Bd.out 2))
   refine bodyPost_ret (results_cell_row rfl _ _ Bf 26 #[.slice (some ⟨go58,0,none⟩) l0_0.length co4,.slice (some ad285) l0_1.length co5,.slice Ao6 l0_2.length co6] (0,0) _ rfl (by (with_reducible repeat (first|refine bN ?_ _|refine bD ?_|refine bA ?_ _));refine blk_put (cs:=#[.slice (some ⟨go58,0,none⟩) l0_0.length co4,.slice (some ad285) l0_1.length co5,.slice none 0 0]) ?_ 2 _ rfl;(with_reducible repeat (first|refine bN ?_ _|refine bD ?_|refine bA ?_ _));refine blk_put (cs:=#[.slice (some ⟨go58,0,none⟩) l0_0.length co4,.slice none 0 0,.slice none 0 0]) ?_ 1 _ rfl;(with_reducible repeat (first|refine bN ?_ _|refine bD ?_|refine bA ?_ _));refine blk_put (cs:=#[.slice none 0 0,.slice none 0 0,.slice none 0 0]) ?_ 0 _ rfl;(with_reducible repeat (first|refine bN ?_ _|refine bD ?_|refine bA ?_ _));exact Bd.out) Try.underlying26 rfl (by kernel_rfl)) rfl ?_
   exact ⟨_,_,_,by first|rfl|(simp [errW_none,errW_some] <;> rfl)|(simp only [← hji63];first|rfl|(simp [errW_none,errW_some] <;> rfl))|(simp [*,errW_none,errW_some] <;> rfl),by (with_reducible repeat (first|apply rA|apply rN|apply rD));exact rM (rF (p:=⟨Bf,2,none⟩) (rF (p:=⟨Bf,1,none⟩) (rF (p:=⟨Bf,0,none⟩) (rT Ba.out Bd.out (by decide)) (fun _ hk=>hk.2) (.slice (some ⟨go58,0,none⟩) l0_0.length co4)) (fun _ hk=>hk.2) (.slice (some ad285) l0_1.length co5)) (fun _ hk=>hk.2) (.slice Ao6 l0_2.length co6)) (fun _ hk=>⟨hk.1.1,hk.1.2⟩),by (with_reducible repeat (first|apply rA|apply rN|apply rD));exact rM (rF (p:=⟨Bf,2,none⟩) (rF (p:=⟨Bf,1,none⟩) (rF (p:=⟨Bf,0,none⟩) (rT Bc.out Bd.out (by decide)) (fun _ hk=>hk.2) (.slice (some ⟨go58,0,none⟩) l0_0.length co4)) (fun _ hk=>hk.2) (.slice (some ad285) l0_1.length co5)) (fun _ hk=>hk.2) (.slice Ao6 l0_2.length co6)) (fun _ hk=>⟨hk.1.1,hk.1.2⟩),by (with_reducible repeat (first|apply rA|apply rN|apply rD));exact rM (rF (p:=⟨Bf,2,none⟩) (rF (p:=⟨Bf,1,none⟩) (rF (p:=⟨Bf,0,none⟩) (rT Be.out Bd.out (by decide)) (fun _ hk=>hk.2) (.slice (some ⟨go58,0,none⟩) l0_0.length co4)) (fun _ hk=>hk.2) (.slice (some ad285) l0_1.length co5)) (fun _ hk=>hk.2) (.slice Ao6 l0_2.length co6)) (fun _ hk=>hk.1),by repeat (first|(with_reducible first|exact HB.out|apply oA|apply pN|apply o1|refine bS ?_ Bj.out|refine bS ?_ Bk.out)|exact HB.out),by repeat (first|(with_reducible first|exact HK.out|apply Kept.alloc|apply Kept.drewN|apply Kept.drew|refine Kept.setCell ?_ (.inr Bh.out) _|refine Kept.setCell ?_ (.inr Bi.out) _)|exact HK.out)⟩
end Go.Proofs.Ytiifanjjohophaa.PFnSigsSend
