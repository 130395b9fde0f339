/- Proved here, without a condition beyond those that each theorem states: what the Go functions named below do is what the plain functions of the same names say. Written by xprint.py, a program of this session. -/
import Derived.Test.YtiifanjjohophaaPFnSigsNextx0
namespace Go.Proofs.Ytiifanjjohophaa.PFnSigsNext
open Go.RowKit Go.Proofs.YtiifanjjohophaaW.PrintWords Go.Proofs.YtiifanjjohophaaW.PrintLast Go.Proofs.YtiifanjjohophaaW.PrintMore
attribute [local go_sem] max2_int min2_int max_two min_two max_three min_three max_four min_four   -- for this text's walks alone
set_option linter.unusedVariables false
set_option linter.unusedSimpArgs false

attribute [local go_sem ↓] isSome_setCell_
/-! ### spec_l10Next: function 49 -/
def spec_l10Next.l0 : Nat → Int → List Bool → List Bool → List Int → Option (Int)
|0, _, _, _, _ => none
|k + 1, x3, x262000, x262001, x262002 => if x3 ≤ 8 then (if 0 ≤ (wrap64 (x3 - 1)) then (if (wrap64 (x3 - 1)) < (x262000.length : Int) then (if rdOf false x262000 (wrap64 (x3 - 1)) = true then (if (wrap64 (x3 - 1)) < (x262001.length : Int) then (if (rdOf false x262001 (wrap64 (x3 - 1)) = true) then (spec_l10Next.l0 k (wrap64 (x3 + 1)) x262000 x262001 x262002) else (some x3)) else (none)) else (spec_l10Next.l0 k (wrap64 (x3 + 1)) x262000 x262001 x262002)) else (none)) else (none)) else (some 0)
def spec_l10Next.f (k : Nat) (l0_0 : List Bool) (l0_1 : List Bool) (l0_2 : List Int) : Option (Int) := spec_l10Next.l0 k 1 l0_0 l0_1 l0_2
theorem spec_l10Next.mono_l : ∀ k, (∀ y0 y1 y2 y3, LeO (spec_l10Next.l0 k y0 y1 y2 y3) (spec_l10Next.l0 (k + 1) y0 y1 y2 y3))
|0 => fun _ _ _ _ r h => by simp [spec_l10Next.l0] at h
|k + 1 => by
  have ih0 := spec_l10Next.mono_l k
  ·intro y0 y1 y2 y3
   unfold spec_l10Next.l0
   repeat' first
  |(with_reducible exact ih0 _ _ _ _)
  |(with_reducible exact LeO.refl _)
  |(with_reducible exact LeO.none _)
  |(with_reducible refine LeO.ite ?_ ?_)
  |(with_reducible refine LeO.bind ?_ (fun _ => ?_))
  |exact ih0 _ _ _ _
  |exact LeO.none _
  |refine LeO.ite ?_ ?_
  |refine LeO.bind ?_ (fun _ => ?_)
theorem spec_l10Next.mono : ∀ a0 a1 a2 k, LeO (spec_l10Next.f k a0 a1 a2) (spec_l10Next.f (k + 1) a0 a1 a2) := by
 intro a0 a1 a2 k
 have ih0 := spec_l10Next.mono_l k
 unfold spec_l10Next.f
 repeat' first
  |(with_reducible exact ih0 _ _ _ _)
  |(with_reducible exact LeO.refl _)
  |(with_reducible exact LeO.none _)
  |(with_reducible refine LeO.ite ?_ ?_)
  |(with_reducible refine LeO.bind ?_ (fun _ => ?_))
  |exact ih0 _ _ _ _
  |exact LeO.none _
  |refine LeO.ite ?_ ?_
  |refine LeO.bind ?_ (fun _ => ?_)
set_option maxHeartbeats 2000000 in
set_option maxRecDepth 100000 in
theorem spec_l10Next.calls (k:Nat) (A0_0:Option Addr) (c0_0:Nat) (l0_0:List Bool) (A0_1:Option Addr) (c0_1:Nat) (l0_1:List Bool) (A0_2:Option Addr) (c0_2:Nat) (l0_2:List Int) (r:Int) (w:World) (hr0_0:Kd.C Kd.bool w A0_0 l0_0.length l0_0) (hc0_0:l0_0.length≤c0_0) (hr0_1:Kd.C Kd.bool w A0_1 l0_1.length l0_1) (hc0_1:l0_1.length≤c0_1) (hr0_2:Kd.C (Kd.int .i64) w A0_2 l0_2.length l0_2) (hc0_2:l0_2.length≤c0_2) (h:spec_l10Next.f k l0_0 l0_1 l0_2=some r) :
  Calls Try.prog 49 #[.agg #[.slice A0_0 l0_0.length c0_0,.slice A0_1 l0_1.length c0_1,.slice A0_2 l0_2.length c0_2]] w fun e w'=>e=.returned (.int .i64 r)∧Below w.heap.size w w':=by
 have hu26:=Try.underlying26
 have HR0_0:=Am hr0_0
 have HC0_0:=Am hc0_0
 clear hr0_0 hc0_0
 have HR0_1:=Am hr0_1
 have HC0_1:=Am hc0_1
 clear hr0_1 hc0_1
 have HR0_2:=Am hr0_2
 have HC0_2:=Am hc0_2
 clear hr0_2 hc0_2
 have HB:=Am (Below.refl w.heap.size w)
 have H:(spec_l10Next.l0 k 1 l0_0 l0_1 l0_2)=some r:=h
 clear h
 have H':=Am H
 clear H
 go_enter Try.func49,Try.ntmps49
 go_wp2_with (first|((with_reducible refine gate_dst (N:=1) rfl ?_);refine box_event ?hg (N:=1) ?hd (cs:=#[.slice A0_0 l0_0.length c0_0,.slice A0_1 l0_1.length c0_1,.slice A0_2 l0_2.length c0_2]) (t:=26) ?hr ?_;(case hd=>rfl);(case hg=>rfl);(case hr=>first|(go_simp;done)|(go_simp;rfl));intro Bb hg w2 hbox hb;have n0_:=Am (bP (by repeat (first|(with_reducible first|exact HB.out|apply oA|apply pN|apply o1)|exact HB.out)) hb);have n1_:=Am (hbox);have n2_:=Am ((by rw [hg];exact (bZ (by repeat (first|(with_reducible first|exact HB.out|apply oA|apply pN|apply o1)|exact HB.out))):w.heap.size≤Bb));have n3_:=Am ((by rw [hg];exact (bZ (by repeat (first|(with_reducible first|exact HB.out|apply oA|apply pN|apply o1)|exact HB.out))):w.heap.size≤Bb));clear HB;revert n0_ n1_ n2_ n3_;intro HB Ba Bv Bc;clear hb hbox hg))
 go_loopg [3] k (fun kq v3 w'=>∃ (x3_1:Int),v3=.int .i64 x3_1∧Aside0 (spec_l10Next.l0 kq x3_1 l0_0 l0_1 l0_2=some r)∧Aside0 (kq≤k)∧Aside0 (w'.heap[Bb]?=some (.cells #[(.slice A0_0 l0_0.length c0_0),(.slice A0_1 l0_1.length c0_1),(.slice A0_2 l0_2.length c0_2)] 26 (0,0)))∧Aside0 (Below w.heap.size w w'))
 case atStart=>exact ⟨(1),(by first|rfl|(simp;done)|(simp [*];done)),H',⟨Nat.le_refl _⟩,⟨by (with_reducible repeat (first|refine bN ?_ _|refine bD ?_|refine bA ?_ _));exact Ba.out⟩,⟨by repeat (first|(with_reducible first|exact HB.out|apply oA|apply pN|apply o1|refine bS ?_ Bc.out)|exact HB.out)⟩⟩
 case round =>
  clear H'
  try clear p2
  obtain ⟨x3_1,rfl,HA,HK1,Ba,HB⟩:=hrel
  cases gk with
 |zero=>exact absurd HA.out (by simp [spec_l10Next.l0])
 |succ k1 =>
   have H:=HA.out
   clear HA
   simp only [spec_l10Next.l0] at H
   by_cases c3:x3_1≤8
   rotate_left
   ·rw [if_neg c3] at H
    have c3b0:decide (x3_1≤8)=false:=decide_eq_false c3
    clear c3
    obtain rfl:=Option.some.inj H
    go_wp2
    go_ret
    exact ⟨by first|rfl|(simp [errW_none,errW_some] <;> rfl)|(simp [*,errW_none,errW_some] <;> rfl),by repeat (first|(with_reducible first|exact HB.out|apply oA|apply pN|apply o1|refine bS ?_ Bc.out)|exact HB.out)⟩

   rw [if_pos c3] at H
   have c3b0:decide (x3_1≤8)=true:=decide_eq_true c3
   clear c3
   obtain ⟨ji4,hji4⟩:∃ j_:Int,(wrap64 (x3_1 - 1))=j_:=⟨_,rfl⟩
   replace H:(if 0≤(ji4) then (if (ji4)<(l0_0.length:Int) then (if rdOf false l0_0 (ji4)=true then (if (ji4)<(l0_1.length:Int) then (if (rdOf false l0_1 (ji4)=true) then (spec_l10Next.l0 k1 (wrap64 (x3_1 + 1)) l0_0 l0_1 l0_2) else (some x3_1)) else (none)) else (spec_l10Next.l0 k1 (wrap64 (x3_1 + 1)) l0_0 l0_1 l0_2)) else (none)) else (none))=some r:=by first|(rw [hji4] at H;exact H)|(simp only [hji4] at H ⊢;exact H)
   have hji4w:(IntKind.i64.wrap (x3_1 - 1))=ji4:=(i64_w _).trans hji4
   by_cases c5:0≤(ji4)
   rotate_left
   ·rw [if_neg c5] at H
    exact absurd H (by simp)
   rw [if_pos c5] at H
   have c5b0:decide (0≤(ji4))=true:=decide_eq_true c5
   clear c5
   by_cases c6:(ji4)<(l0_0.length:Int)
   rotate_left
   ·rw [if_neg c6] at H
    exact absurd H (by simp)
   rw [if_pos c6] at H
   have c6b0:decide ((ji4)<(l0_0.length:Int))=true:=decide_eq_true c6
   clear c6
   obtain ⟨bq7,hbq7⟩:∃ b_:Bool,b_=(rdOf false l0_0 (ji4)):=⟨_,rfl⟩
   replace H:(if bq7=true then (if (ji4)<(l0_1.length:Int) then (if (rdOf false l0_1 (ji4)=true) then (spec_l10Next.l0 k1 (wrap64 (x3_1 + 1)) l0_0 l0_1 l0_2) else (some x3_1)) else (none)) else (spec_l10Next.l0 k1 (wrap64 (x3_1 + 1)) l0_0 l0_1 l0_2))=some r:=by rw [← hbq7] at H;exact H
   have Nbq7:=Am hbq7
   clear hbq7
   by_cases c8:bq7=true
   rotate_left
   ·replace c8:=Bool.eq_false_iff.mpr c8
    subst c8
    have H1:(spec_l10Next.l0 k1 (wrap64 (x3_1 + 1)) l0_0 l0_1 l0_2)=some r:=by rw [if_neg (show ¬ (false=true) by decide)] at H;exact H
    clear H
    have H:=H1
    clear H1
    have H':=Am H
    clear H
    have Bp:wr.cell? ⟨Bb,0,none⟩=some (.slice A0_0 l0_0.length c0_0):=(bC Ba.out 0).trans rfl
    have Bq:wr.cell? ⟨Bb,1,none⟩=some (.slice A0_1 l0_1.length c0_1):=(bC Ba.out 1).trans rfl
    have Br:wr.cell? ⟨Bb,2,none⟩=some (.slice A0_2 l0_2.length c0_2):=(bC Ba.out 2).trans rfl
    have Bs:=bF Ba.out 0
    have Bt:=bF Ba.out 1
    have Bu:=bF Ba.out 2
    have p262:0≤((ji4):Int):=of_decide_eq_true (by first|(with_reducible assumption)|assumption)
    have q262:(ji4)<(l0_0.length:Int):=of_decide_eq_true (by first|(with_reducible assumption)|assumption)
    obtain ⟨ad262,e262,hx262_0⟩:=Kd.at_bool HR0_0.out (ji4) p262 q262
    (try rw [← Nbq7.out] at hx262_0)
    cases e262
    replace hx262_0:=(bW HB hx262_0:)
    replace p262:=eq_true p262
    replace q262:=eq_true q262
    go_wp2
    go_roundg k1
    case measure=>have:=HK1.out;omega
    case rel=>exact ⟨(wrap64 (x3_1 + 1)),(by first|rfl|(simp;done)|(simp [*];done)),H',⟨by have:=HK1.out;omega⟩,⟨by (with_reducible repeat (first|refine bN ?_ _|refine bD ?_|refine bA ?_ _));exact Ba.out⟩,⟨by repeat (first|(with_reducible first|exact HB.out|apply oA|apply pN|apply o1|refine bS ?_ Bc.out)|exact HB.out)⟩⟩
   subst c8
   have H1:(if (ji4)<(l0_1.length:Int) then (if (rdOf false l0_1 (ji4)=true) then (spec_l10Next.l0 k1 (wrap64 (x3_1 + 1)) l0_0 l0_1 l0_2) else (some x3_1)) else (none))=some r:=by rw [if_pos rfl] at H;exact H
   clear H
   have H:=H1
   clear H1
   by_cases c9:(ji4)<(l0_1.length:Int)
   rotate_left
   ·rw [if_neg c9] at H
    exact absurd H (by simp)
   rw [if_pos c9] at H
   have c9b0:decide ((ji4)<(l0_1.length:Int))=true:=decide_eq_true c9
   clear c9
   obtain ⟨bq10,hbq10⟩:∃ b_:Bool,b_=(rdOf false l0_1 (ji4)):=⟨_,rfl⟩
   replace H:(if (bq10=true) then (spec_l10Next.l0 k1 (wrap64 (x3_1 + 1)) l0_0 l0_1 l0_2) else (some x3_1))=some r:=by rw [← hbq10] at H;exact H
   have Nbq10:=Am hbq10
   clear hbq10
   by_cases c11:(bq10=true)
   rotate_left
   ·replace c11:=Bool.eq_false_iff.mpr c11
    subst c11
    have H1:(some x3_1)=some r:=by rw [if_neg (show ¬ (false=true) by decide)] at H;exact H
    clear H
    have H:=H1
    clear H1
    obtain rfl:=Option.some.inj H
    have Bj:wr.cell? ⟨Bb,0,none⟩=some (.slice A0_0 l0_0.length c0_0):=(bC Ba.out 0).trans rfl
    have Bk:wr.cell? ⟨Bb,1,none⟩=some (.slice A0_1 l0_1.length c0_1):=(bC Ba.out 1).trans rfl
    have Bl:wr.cell? ⟨Bb,2,none⟩=some (.slice A0_2 l0_2.length c0_2):=(bC Ba.out 2).trans rfl
    have Bm:=bF Ba.out 0
    have Bn:=bF Ba.out 1
    have Bo:=bF Ba.out 2
    have p262:0≤((ji4):Int):=of_decide_eq_true (by first|(with_reducible assumption)|assumption)
    have q262:(ji4)<(l0_0.length:Int):=of_decide_eq_true (by first|(with_reducible assumption)|assumption)
    obtain ⟨ad262,e262,hx262_0⟩:=Kd.at_bool HR0_0.out (ji4) p262 q262
    (try rw [← Nbq7.out] at hx262_0)
    (try rw [← Nbq10.out] at hx262_0)
    cases e262
    replace hx262_0:=(bW HB hx262_0:)
    replace p262:=eq_true p262
    replace q262:=eq_true q262
    have p263:0≤((ji4):Int):=of_decide_eq_true (by first|(with_reducible assumption)|assumption)
    have q263:(ji4)<(l0_1.length:Int):=of_decide_eq_true (by first|(with_reducible assumption)|assumption)
    obtain ⟨ad263,e263,hx263_0⟩:=Kd.at_bool HR0_1.out (ji4) p263 q263
    (try rw [← Nbq7.out] at hx263_0)
    (try rw [← Nbq10.out] at hx263_0)
    cases e263
    replace hx263_0:=(bW HB hx263_0:)
    replace p263:=eq_true p263
    replace q263:=eq_true q263
    go_wp2
    go_ret
    exact ⟨by first|rfl|(simp [errW_none,errW_some] <;> rfl)|(simp only [← hji4];first|rfl|(simp [errW_none,errW_some] <;> rfl))|(simp [*,errW_none,errW_some] <;> rfl),by repeat (first|(with_reducible first|exact HB.out|apply oA|apply pN|apply o1|refine bS ?_ Bc.out)|exact HB.out)⟩
   subst c11
   have H1:(spec_l10Next.l0 k1 (wrap64 (x3_1 + 1)) l0_0 l0_1 l0_2)=some r:=by rw [if_pos rfl] at H;exact H
   clear H
   have H:=H1
   clear H1
   have H':=Am H
   clear H
   have Bd:wr.cell? ⟨Bb,0,none⟩=some (.slice A0_0 l0_0.length c0_0):=(bC Ba.out 0).trans rfl
   have Be:wr.cell? ⟨Bb,1,none⟩=some (.slice A0_1 l0_1.length c0_1):=(bC Ba.out 1).trans rfl
   have Bf:wr.cell? ⟨Bb,2,none⟩=some (.slice A0_2 l0_2.length c0_2):=(bC Ba.out 2).trans rfl
   have Bg:=bF Ba.out 0
   have Bh:=bF Ba.out 1
   have Bi:=bF Ba.out 2
   have p262:0≤((ji4):Int):=of_decide_eq_true (by first|(with_reducible assumption)|assumption)
   have q262:(ji4)<(l0_0.length:Int):=of_decide_eq_true (by first|(with_reducible assumption)|assumption)
   obtain ⟨ad262,e262,hx262_0⟩:=Kd.at_bool HR0_0.out (ji4) p262 q262
   (try rw [← Nbq7.out] at hx262_0)
   (try rw [← Nbq10.out] at hx262_0)
   cases e262
   replace hx262_0:=(bW HB hx262_0:)
   replace p262:=eq_true p262
   replace q262:=eq_true q262
   have p263:0≤((ji4):Int):=of_decide_eq_true (by first|(with_reducible assumption)|assumption)
   have q263:(ji4)<(l0_1.length:Int):=of_decide_eq_true (by first|(with_reducible assumption)|assumption)
   obtain ⟨ad263,e263,hx263_0⟩:=Kd.at_bool HR0_1.out (ji4) p263 q263
   (try rw [← Nbq7.out] at hx263_0)
   (try rw [← Nbq10.out] at hx263_0)
   cases e263
   replace hx263_0:=(bW HB hx263_0:)
   replace p263:=eq_true p263
   replace q263:=eq_true q263
   go_wp2
   go_roundg k1
   case measure=>have:=HK1.out;omega
   case rel=>exact ⟨(wrap64 (x3_1 + 1)),(by first|rfl|(simp;done)|(simp [*];done)),H',⟨by have:=HK1.out;omega⟩,⟨by (with_reducible repeat (first|refine bN ?_ _|refine bD ?_|refine bA ?_ _));exact Ba.out⟩,⟨by repeat (first|(with_reducible first|exact HB.out|apply oA|apply pN|apply o1|refine bS ?_ Bc.out)|exact HB.out)⟩⟩
end Go.Proofs.Ytiifanjjohophaa.PFnSigsNext
