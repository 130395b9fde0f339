/- Proved here, without a condition beyond those that each theorem states: what the Go functions named below do is what the plain functions of the same names say. Written by xprint.py, a program of this session. -/
import Derived.Test.YtiifanjjohophaaPFnSigsDrainx0
import Derived.Test.YtiifanjjohophaaPFnSigsDrainx2
namespace Go.Proofs.Ytiifanjjohophaa.PFnSigsDrain
open Go.RowKit Go.Proofs.YtiifanjjohophaaW.PrintWords Go.Proofs.YtiifanjjohophaaW.PrintLast Go.Proofs.YtiifanjjohophaaW.PrintMore
attribute [local go_sem] max2_int min2_int max_two min_two max_three min_three max_four min_four   -- for this text's walks alone
set_option linter.unusedVariables false
set_option linter.unusedSimpArgs false

attribute [local go_sem ↓] isSome_setCell_
/-! ### impl_Sigs_first: function 38 -/
def impl_Sigs_first.l0 : Nat → Int → List Bool → List Bool → List Int → Option (Int)
|0, _, _, _, _ => none
|k + 1, x5, x133000, x133001, x133002 => if x5 ≤ 8 then (if 0 ≤ (wrap64 (x5 - 1)) then (if (wrap64 (x5 - 1)) < (x133000.length : Int) then (if rdOf false x133000 (wrap64 (x5 - 1)) = true then (if (wrap64 (x5 - 1)) < (x133001.length : Int) then (if (rdOf false x133001 (wrap64 (x5 - 1)) = true) then (impl_Sigs_first.l0 k (wrap64 (x5 + 1)) x133000 x133001 x133002) else ((impl_SigsNext_1.f x5).bind fun t135 => (if t135 = true then (some x5) else (impl_Sigs_first.l0 k (wrap64 (x5 + 1)) x133000 x133001 x133002)))) else (none)) else (impl_Sigs_first.l0 k (wrap64 (x5 + 1)) x133000 x133001 x133002)) else (none)) else (none)) else (some 0)
def impl_Sigs_first.f (k : Nat) (l0_0 : List Bool) (l0_1 : List Bool) (l0_2 : List Int) : Option (Int) := impl_Sigs_first.l0 k 1 l0_0 l0_1 l0_2
theorem impl_Sigs_first.mono_l : ∀ k, (∀ y0 y1 y2 y3, LeO (impl_Sigs_first.l0 k y0 y1 y2 y3) (impl_Sigs_first.l0 (k + 1) y0 y1 y2 y3))
|0 => fun _ _ _ _ r h => by simp [impl_Sigs_first.l0] at h
|k + 1 => by
  have ih0 := impl_Sigs_first.mono_l k
  ·intro y0 y1 y2 y3
   unfold impl_Sigs_first.l0
   repeat' first
  |(with_reducible exact ih0 _ _ _ _)
  |(with_reducible exact LeO.refl _)
  |(with_reducible exact LeO.none _)
  |(with_reducible refine LeO.ite ?_ ?_)
  |(with_reducible refine LeO.bind ?_ (fun _ => ?_))
  |exact ih0 _ _ _ _
  |exact LeO.none _
  |refine LeO.ite ?_ ?_
  |refine LeO.bind ?_ (fun _ => ?_)
theorem impl_Sigs_first.mono : ∀ a0 a1 a2 k, LeO (impl_Sigs_first.f k a0 a1 a2) (impl_Sigs_first.f (k + 1) a0 a1 a2) := by
 intro a0 a1 a2 k
 have ih0 := impl_Sigs_first.mono_l k
 unfold impl_Sigs_first.f
 repeat' first
  |(with_reducible exact ih0 _ _ _ _)
  |(with_reducible exact LeO.refl _)
  |(with_reducible exact LeO.none _)
  |(with_reducible refine LeO.ite ?_ ?_)
  |(with_reducible refine LeO.bind ?_ (fun _ => ?_))
  |exact ih0 _ _ _ _
  |exact LeO.none _
  |refine LeO.ite ?_ ?_
  |refine LeO.bind ?_ (fun _ => ?_)
set_option maxHeartbeats 2000000 in
set_option maxRecDepth 100000 in
theorem impl_Sigs_first.calls (k:Nat) (A0_0:Option Addr) (c0_0:Nat) (l0_0:List Bool) (A0_1:Option Addr) (c0_1:Nat) (l0_1:List Bool) (A0_2:Option Addr) (c0_2:Nat) (l0_2:List Int) (r:Int) (w:World) (hr0_0:Kd.C Kd.bool w A0_0 l0_0.length l0_0) (hc0_0:l0_0.length≤c0_0) (hr0_1:Kd.C Kd.bool w A0_1 l0_1.length l0_1) (hc0_1:l0_1.length≤c0_1) (hr0_2:Kd.C (Kd.int .i64) w A0_2 l0_2.length l0_2) (hc0_2:l0_2.length≤c0_2) (h:impl_Sigs_first.f k l0_0 l0_1 l0_2=some r) :
  Calls Try.prog 38 #[.agg #[.slice A0_0 l0_0.length c0_0,.slice A0_1 l0_1.length c0_1,.slice A0_2 l0_2.length c0_2],.func (.func 39) #[] #[]] w fun e w'=>e=.returned (.int .i64 r)∧Below w.heap.size w w':=by
 have hu26:=Try.underlying26
 have HR0_0:=Am hr0_0
 have HC0_0:=Am hc0_0
 clear hr0_0 hc0_0
 have HR0_1:=Am hr0_1
 have HC0_1:=Am hc0_1
 clear hr0_1 hc0_1
 have HR0_2:=Am hr0_2
 have HC0_2:=Am hc0_2
 clear hr0_2 hc0_2
 have HB:=Am (bJ w.heap.size w)
 have H:(impl_Sigs_first.l0 k 1 l0_0 l0_1 l0_2)=some r:=h
 clear h
 have H':=Am H
 clear H
 go_enter Try.func38,Try.ntmps38
 go_wp2_with (first|((with_reducible refine gD (N:=2) rfl ?_);refine bI ?hg (N:=2) ?hd (cs:=#[.slice A0_0 l0_0.length c0_0,.slice A0_1 l0_1.length c0_1,.slice A0_2 l0_2.length c0_2]) (t:=26) ?hr ?_;(case hd=>rfl);(case hg=>rfl);(case hr=>first|(go_simp;done)|(go_simp;rfl));intro Bb hg w2 hbox hb;have n0_:=Am (bP (by repeat (first|(with_reducible first|exact HB.out|apply oA|apply pN|apply o1)|exact HB.out)) hb);have n1_:=Am (hbox);have n2_:=Am ((by rw [hg];exact (bZ (by repeat (first|(with_reducible first|exact HB.out|apply oA|apply pN|apply o1)|exact HB.out))):w.heap.size≤Bb));have n3_:=Am ((by rw [hg];exact (bZ (by repeat (first|(with_reducible first|exact HB.out|apply oA|apply pN|apply o1)|exact HB.out))):w.heap.size≤Bb));clear HB;revert n0_ n1_ n2_ n3_;intro HB Ba BB Bc;clear hb hbox hg))
 go_loopg [5] k (fun kq v5 w'=>∃ (x5_1:Int),v5=.int .i64 x5_1∧Aside0 (impl_Sigs_first.l0 kq x5_1 l0_0 l0_1 l0_2=some r)∧Aside0 (kq≤k)∧Aside0 (w'.heap[Bb]?=some (.cells #[(.slice A0_0 l0_0.length c0_0),(.slice A0_1 l0_1.length c0_1),(.slice A0_2 l0_2.length c0_2)] 26 (0,0)))∧Aside0 (Below w.heap.size w w'))
 case atStart=>exact ⟨(1),(by first|rfl|(simp;done)|(simp [*];done)),H',⟨nR _⟩,⟨by (with_reducible repeat (first|refine bN ?_ _|refine bD ?_|refine bA ?_ _));exact Ba.out⟩,⟨by repeat (first|(with_reducible first|exact HB.out|apply oA|apply pN|apply o1|refine bS ?_ Bc.out)|exact HB.out)⟩⟩
 case round =>
  clear H'
  try clear p2
  obtain ⟨x5_1,rfl,HA,HK1,Ba,HB⟩:=hrel
  cases gk with
 |zero=>exact absurd HA.out (by simp [impl_Sigs_first.l0])
 |succ k1 =>
   have H:=HA.out
   clear HA
   simp only [impl_Sigs_first.l0] at H
   by_cases c3:x5_1≤8
   rotate_left
   ·rw [if_neg c3] at H
    have c3b0:decide (x5_1≤8)=false:=dF c3
    clear c3
    obtain rfl:=oJ H
    go_wp2
    go_ret
    exact ⟨by first|rfl|(simp [errW_none,errW_some] <;> rfl)|(simp [*,errW_none,errW_some] <;> rfl),by repeat (first|(with_reducible first|exact HB.out|apply oA|apply pN|apply o1|refine bS ?_ Bc.out)|exact HB.out)⟩


   rw [if_pos c3] at H
   have c3b0:decide (x5_1≤8)=true:=dT c3
   clear c3
   obtain ⟨ji4,hji4⟩:∃ j_:Int,(wrap64 (x5_1 - 1))=j_:=⟨_,rfl⟩
   replace H:(if 0≤(ji4) then (if (ji4)<(l0_0.length:Int) then (if rdOf false l0_0 (ji4)=true then (if (ji4)<(l0_1.length:Int) then (if (rdOf false l0_1 (ji4)=true) then (impl_Sigs_first.l0 k1 (wrap64 (x5_1 + 1)) l0_0 l0_1 l0_2) else ((impl_SigsNext_1.f x5_1).bind fun t135=>(if t135=true then (some x5_1) else (impl_Sigs_first.l0 k1 (wrap64 (x5_1 + 1)) l0_0 l0_1 l0_2)))) else (none)) else (impl_Sigs_first.l0 k1 (wrap64 (x5_1 + 1)) l0_0 l0_1 l0_2)) else (none)) else (none))=some r:=by first|(rw [hji4] at H;exact H)|(simp only [hji4] at H ⊢;exact H)
   have hji4w:(IntKind.i64.wrap (x5_1 - 1))=ji4:=(i64_w _).trans hji4
   by_cases c5:0≤(ji4)
   rotate_left
   ·rw [if_neg c5] at H
    exact absurd H (by simp)
   rw [if_pos c5] at H
   have c5b0:decide (0≤(ji4))=true:=dT c5
   clear c5
   by_cases c6:(ji4)<(l0_0.length:Int)
   rotate_left
   ·rw [if_neg c6] at H
    exact absurd H (by simp)
   rw [if_pos c6] at H
   have c6b0:decide ((ji4)<(l0_0.length:Int))=true:=dT c6
   clear c6
   obtain ⟨bq7,hbq7⟩:∃ b_:Bool,b_=(rdOf false l0_0 (ji4)):=⟨_,rfl⟩
   replace H:(if bq7=true then (if (ji4)<(l0_1.length:Int) then (if (rdOf false l0_1 (ji4)=true) then (impl_Sigs_first.l0 k1 (wrap64 (x5_1 + 1)) l0_0 l0_1 l0_2) else ((impl_SigsNext_1.f x5_1).bind fun t135=>(if t135=true then (some x5_1) else (impl_Sigs_first.l0 k1 (wrap64 (x5_1 + 1)) l0_0 l0_1 l0_2)))) else (none)) else (impl_Sigs_first.l0 k1 (wrap64 (x5_1 + 1)) l0_0 l0_1 l0_2))=some r:=by rw [← hbq7] at H;exact H
   have Nbq7:=Am hbq7
   clear hbq7
   by_cases c8:bq7=true
   rotate_left
   ·replace c8:=Bool.eq_false_iff.mpr c8
    subst c8
    have H1:(impl_Sigs_first.l0 k1 (wrap64 (x5_1 + 1)) l0_0 l0_1 l0_2)=some r:=by rw [if_neg (show ¬ (false=true) by decide)] at H;exact H
    clear H
    have H:=H1
    clear H1
    have H':=Am H
    clear H
    have Bv:=cz0 Ba.out
    have Bw:=cz1 Ba.out
    have Bx:=cz2 Ba.out
    have By:=bF Ba.out 0
    have Bz:=bF Ba.out 1
    have BA:=bF Ba.out 2
    have p133:0≤((ji4):Int):=oE (by first|(with_reducible assumption)|assumption)
    have q133:(ji4)<(l0_0.length:Int):=oE (by first|(with_reducible assumption)|assumption)
    obtain ⟨ad133,e133,hx133_0⟩:=Kd.at_bool HR0_0.out (ji4) p133 q133
    (try rw [← Nbq7.out] at hx133_0)
    cases e133
    replace hx133_0:=(bW HB hx133_0:)
    replace p133:=eq_true p133
    replace q133:=eq_true q133
    go_wp2
    go_roundg k1
    case measure=>have:=HK1.out;omega
    case rel=>(try rw [← Nbq7.out]);exact ⟨(wrap64 (x5_1 + 1)),(by first|rfl|(simp;done)|(simp [*];done)),H',⟨by have:=HK1.out;omega⟩,⟨by (with_reducible repeat (first|refine bN ?_ _|refine bD ?_|refine bA ?_ _));exact Ba.out⟩,⟨by repeat (first|(with_reducible first|exact HB.out|apply oA|apply pN|apply o1|refine bS ?_ Bc.out)|exact HB.out)⟩⟩
   subst c8
   have H1:(if (ji4)<(l0_1.length:Int) then (if (rdOf false l0_1 (ji4)=true) then (impl_Sigs_first.l0 k1 (wrap64 (x5_1 + 1)) l0_0 l0_1 l0_2) else ((impl_SigsNext_1.f x5_1).bind fun t135=>(if t135=true then (some x5_1) else (impl_Sigs_first.l0 k1 (wrap64 (x5_1 + 1)) l0_0 l0_1 l0_2)))) else (none))=some r:=by rw [if_pos rfl] at H;exact H
   clear H
   have H:=H1
   clear H1
   by_cases c9:(ji4)<(l0_1.length:Int)
   rotate_left
   ·rw [if_neg c9] at H
    exact absurd H (by simp)
   rw [if_pos c9] at H
   have c9b0:decide ((ji4)<(l0_1.length:Int))=true:=dT c9
   clear c9
   obtain ⟨bq10,hbq10⟩:∃ b_:Bool,b_=(rdOf false l0_1 (ji4)):=⟨_,rfl⟩
   replace H:(if (bq10=true) then (impl_Sigs_first.l0 k1 (wrap64 (x5_1 + 1)) l0_0 l0_1 l0_2) else ((impl_SigsNext_1.f x5_1).bind fun t135=>(if t135=true then (some x5_1) else (impl_Sigs_first.l0 k1 (wrap64 (x5_1 + 1)) l0_0 l0_1 l0_2))))=some r:=by rw [← hbq10] at H;exact H
   have Nbq10:=Am hbq10
   clear hbq10
   by_cases c11:(bq10=true)
   ·subst c11
    have H1:(impl_Sigs_first.l0 k1 (wrap64 (x5_1 + 1)) l0_0 l0_1 l0_2)=some r:=by rw [if_pos rfl] at H;exact H
    clear H
    have H:=H1
    clear H1
    have H':=Am H
    clear H
    have Bd:=cz0 Ba.out
    have Be:=cz1 Ba.out
    have Bf:=cz2 Ba.out
    have Bg:=bF Ba.out 0
    have Bh:=bF Ba.out 1
    have Bi:=bF Ba.out 2
    have p133:0≤((ji4):Int):=oE (by first|(with_reducible assumption)|assumption)
    have q133:(ji4)<(l0_0.length:Int):=oE (by first|(with_reducible assumption)|assumption)
    obtain ⟨ad133,e133,hx133_0⟩:=Kd.at_bool HR0_0.out (ji4) p133 q133
    (try rw [← Nbq7.out] at hx133_0)
    (try rw [← Nbq10.out] at hx133_0)
    cases e133
    replace hx133_0:=(bW HB hx133_0:)
    replace p133:=eq_true p133
    replace q133:=eq_true q133
    have p134:0≤((ji4):Int):=oE (by first|(with_reducible assumption)|assumption)
    have q134:(ji4)<(l0_1.length:Int):=oE (by first|(with_reducible assumption)|assumption)
    obtain ⟨ad134,e134,hx134_0⟩:=Kd.at_bool HR0_1.out (ji4) p134 q134
    (try rw [← Nbq7.out] at hx134_0)
    (try rw [← Nbq10.out] at hx134_0)
    cases e134
    replace hx134_0:=(bW HB hx134_0:)
    replace p134:=eq_true p134
    replace q134:=eq_true q134
    go_wp2
    go_roundg k1
    case measure=>have:=HK1.out;omega
    case rel=>(try rw [← Nbq7.out]);(try rw [← Nbq10.out]);exact ⟨(wrap64 (x5_1 + 1)),(by first|rfl|(simp;done)|(simp [*];done)),H',⟨by have:=HK1.out;omega⟩,⟨by (with_reducible repeat (first|refine bN ?_ _|refine bD ?_|refine bA ?_ _));exact Ba.out⟩,⟨by repeat (first|(with_reducible first|exact HB.out|apply oA|apply pN|apply o1|refine bS ?_ Bc.out)|exact HB.out)⟩⟩
   replace c11:=Bool.eq_false_iff.mpr c11
   subst c11
   have H1:((impl_SigsNext_1.f x5_1).bind fun t135=>(if t135=true then (some x5_1) else (impl_Sigs_first.l0 k1 (wrap64 (x5_1 + 1)) l0_0 l0_1 l0_2)))=some r:=by rw [if_neg (show ¬ (false=true) by decide)] at H;exact H
   clear H
   have H:=H1
   clear H1
   replace H:=oC H
   obtain ⟨t135,A130,H⟩:=H
   replace H:(if t135=true then (some x5_1) else (impl_Sigs_first.l0 k1 (wrap64 (x5_1 + 1)) l0_0 l0_1 l0_2))=some r:=H
   have A13:=Am A130
   clear A130
   by_cases c14:t135=true
   ·subst c14
    have H1:(some x5_1)=some r:=by rw [if_pos rfl] at H;exact H
    clear H
    have H:=H1
    clear H1
    obtain rfl:=oJ H
    have Bj:=cz0 Ba.out
    have Bk:=cz1 Ba.out
    have Bl:=cz2 Ba.out
    have Bm:=bF Ba.out 0
    have Bn:=bF Ba.out 1
    have Bo:=bF Ba.out 2
    have p133:0≤((ji4):Int):=oE (by first|(with_reducible assumption)|assumption)
    have q133:(ji4)<(l0_0.length:Int):=oE (by first|(with_reducible assumption)|assumption)
    obtain ⟨ad133,e133,hx133_0⟩:=Kd.at_bool HR0_0.out (ji4) p133 q133
    (try rw [← Nbq7.out] at hx133_0)
    (try rw [← Nbq10.out] at hx133_0)
    cases e133
    replace hx133_0:=(bW HB hx133_0:)
    replace p133:=eq_true p133
    replace q133:=eq_true q133
    have p134:0≤((ji4):Int):=oE (by first|(with_reducible assumption)|assumption)
    have q134:(ji4)<(l0_1.length:Int):=oE (by first|(with_reducible assumption)|assumption)
    obtain ⟨ad134,e134,hx134_0⟩:=Kd.at_bool HR0_1.out (ji4) p134 q134
    (try rw [← Nbq7.out] at hx134_0)
    (try rw [← Nbq10.out] at hx134_0)
    cases e134
    replace hx134_0:=(bW HB hx134_0:)
    replace p134:=eq_true p134
    replace q134:=eq_true q134
    go_wp2_with (first|(go_at_call 39;(with_reducible refine (impl_SigsNext_1.calls x5_1 true _ A13.out).mono ?_);rintro e w' ⟨rfl,⟨nd,rfl⟩⟩))
    go_ret
    exact ⟨by first|rfl|(simp [errW_none,errW_some] <;> rfl)|(simp only [← hji4];first|rfl|(simp [errW_none,errW_some] <;> rfl))|(simp [*,errW_none,errW_some] <;> rfl),by repeat (first|(with_reducible first|exact HB.out|apply oA|apply pN|apply o1|refine bS ?_ Bc.out)|exact HB.out)⟩
   replace c14:=Bool.eq_false_iff.mpr c14
   subst c14
   have H1:(impl_Sigs_first.l0 k1 (wrap64 (x5_1 + 1)) l0_0 l0_1 l0_2)=some r:=by rw [if_neg (show ¬ (false=true) by decide)] at H;exact H
   clear H
   have H:=H1
   clear H1
   have H':=Am H
   clear H
   have Bp:=cz0 Ba.out
   have Bq:=cz1 Ba.out
   have Br:=cz2 Ba.out
   have Bs:=bF Ba.out 0
   have Bt:=bF Ba.out 1
   have Bu:=bF Ba.out 2
   have p133:0≤((ji4):Int):=oE (by first|(with_reducible assumption)|assumption)
   have q133:(ji4)<(l0_0.length:Int):=oE (by first|(with_reducible assumption)|assumption)
   obtain ⟨ad133,e133,hx133_0⟩:=Kd.at_bool HR0_0.out (ji4) p133 q133
   (try rw [← Nbq7.out] at hx133_0)
   (try rw [← Nbq10.out] at hx133_0)
   cases e133
   replace hx133_0:=(bW HB hx133_0:)
   replace p133:=eq_true p133
   replace q133:=eq_true q133
   have p134:0≤((ji4):Int):=oE (by first|(with_reducible assumption)|assumption)
   have q134:(ji4)<(l0_1.length:Int):=oE (by first|(with_reducible assumption)|assumption)
   obtain ⟨ad134,e134,hx134_0⟩:=Kd.at_bool HR0_1.out (ji4) p134 q134
   (try rw [← Nbq7.out] at hx134_0)
   (try rw [← Nbq10.out] at hx134_0)
   cases e134
   replace hx134_0:=(bW HB hx134_0:)
   replace p134:=eq_true p134
   replace q134:=eq_true q134
   go_wp2_with (first|(go_at_call 39;(with_reducible refine (impl_SigsNext_1.calls x5_1 false _ A13.out).mono ?_);rintro e w' ⟨rfl,⟨nd,rfl⟩⟩))
   go_roundg k1
   case measure=>have:=HK1.out;omega
   case rel=>(try rw [← Nbq7.out]);(try rw [← Nbq10.out]);exact ⟨(wrap64 (x5_1 + 1)),(by first|rfl|(simp;done)|(simp [*];done)),H',⟨by have:=HK1.out;omega⟩,⟨by (with_reducible repeat (first|refine bN ?_ _|refine bD ?_|refine bA ?_ _));exact Ba.out⟩,⟨by repeat (first|(with_reducible first|exact HB.out|apply oA|apply pN|apply o1|refine bS ?_ Bc.out)|exact HB.out)⟩⟩/-! ### impl_usual: function 53 -/
def impl_usual.j0 : Nat → Int → Bool → Option (Int)
|0, _, _ => none
|k + 1, x3, x4 => if x4 = true then (some 2) else (if x3 = 3 then (some 3) else (if x3 = 4 then (some 1) else (if x3 = 7 then (some 1) else (some 0))))
def impl_usual.f (k : Nat) (a0 : Int) : Option (Int) := if a0 = 2 then (impl_usual.j0 k a0 (a0 == 2)) else (impl_usual.j0 k a0 (a0 == 6))
theorem impl_usual.mono_l : ∀ k, (∀ y0 y1, LeO (impl_usual.j0 k y0 y1) (impl_usual.j0 (k + 1) y0 y1))
|0 => fun _ _ r h => by simp [impl_usual.j0] at h
|k + 1 => by
  have ih0 := impl_usual.mono_l k
  ·intro y0 y1
   unfold impl_usual.j0
   repeat' first
  |(with_reducible exact ih0 _ _)
  |(with_reducible exact LeO.refl _)
  |(with_reducible exact LeO.none _)
  |(with_reducible refine LeO.ite ?_ ?_)
  |(with_reducible refine LeO.bind ?_ (fun _ => ?_))
  |exact ih0 _ _
  |exact LeO.none _
  |refine LeO.ite ?_ ?_
  |refine LeO.bind ?_ (fun _ => ?_)
theorem impl_usual.mono : ∀ a0 k, LeO (impl_usual.f k a0) (impl_usual.f (k + 1) a0) := by
 intro a0 k
 have ih0 := impl_usual.mono_l k
 unfold impl_usual.f
 repeat' first
  |(with_reducible exact ih0 _ _)
  |(with_reducible exact LeO.refl _)
  |(with_reducible exact LeO.none _)
  |(with_reducible refine LeO.ite ?_ ?_)
  |(with_reducible refine LeO.bind ?_ (fun _ => ?_))
  |exact ih0 _ _
  |exact LeO.none _
  |refine LeO.ite ?_ ?_
  |refine LeO.bind ?_ (fun _ => ?_)
set_option maxHeartbeats 2000000 in
set_option maxRecDepth 100000 in
theorem impl_usual.calls (k:Nat) (a0:Int) (r:Int) (w:World) (h:impl_usual.f k a0=some r) :
  Calls Try.prog 53 #[.int .i64 a0] w fun e w'=>e=.returned (.int .i64 r)∧Drawn0 w w':=by
 have H:(if a0=2 then (impl_usual.j0 k a0 (a0 == 2)) else (impl_usual.j0 k a0 (a0 == 6)))=some r:=h
 clear h
 have HC2:=Am H
 clear H
 go_enter Try.func53,Try.ntmps53
 go_upto_if 4 with (fail)
 go_cut [4] (fun v4 wc=>∃ (kq:Nat) (x4_1:Bool),v4=.bool x4_1∧Aside0 (impl_usual.j0 kq a0 x4_1=some r)∧Aside0 (kq≤k)∧Drawn0 w wc)
 case first =>
  have H:=HC2.out
  clear HC2
  by_cases c3:a0=2
  rotate_left
  ·rw [if_neg c3] at H
   have c3b0:(a0 == 2)=false:=beq_eq_false_iff_ne.mpr c3
   have c3b1:(a0 != 2)=true:=bne_iff_ne.mpr c3
   (first|rw [c3b0]|(simp only [i64_w,i32_w];rw [c3b0])|skip)
   have H':=Am H
   clear H
   go_wp2
   go_meet
   case rel=>exact ⟨_,((a0 == 6)),(by first|rfl|(simp;done)|(simp [*];done)),H',⟨by first|omega|exact nR _⟩,by repeat (first|exact Drawn0.refl _|apply Drawn0.step)⟩
  rw [if_pos c3] at H
  have c3b0:(a0 == 2)=true:=beq_iff_eq.mpr c3
  have c3b1:(a0 != 2)=false:=bne_eq_false_iff_eq.mpr c3
  clear c3
  (first|rw [c3b0]|(simp only [i64_w,i32_w];rw [c3b0])|skip)
  have H':=Am H
  clear H
  go_wp2
  go_meet
  case rel=>exact ⟨_,((a0 == 2)),(by first|rfl|(simp;done)|(simp [*];done)),H',⟨by first|omega|exact nR _⟩,by repeat (first|exact Drawn0.refl _|apply Drawn0.step)⟩
 case rest =>
  clear HC2
  try clear p2
  try clear c3
  try clear c3b0
  try clear c3b1
  obtain ⟨kq,x4_1,rfl,HA,Ba,⟨mc1,rfl⟩⟩:=hcut
  cases kq with
 |zero=>exact absurd HA.out (by simp [impl_usual.j0])
 |succ kj1 =>
   have H:=HA.out
   clear HA
   simp only [impl_usual.j0] at H
   by_cases c4:x4_1=true
   ·subst c4
    have H1:(some 2)=some r:=by rw [if_pos rfl] at H;exact H
    clear H
    have H:=H1
    clear H1
    obtain rfl:=oJ H
    go_wp2
    go_ret
    exact ⟨by first|rfl|(simp;done)|(simp [*];done),by repeat (first|exact Drawn0.refl _|apply Drawn0.step)⟩
   replace c4:=Bool.eq_false_iff.mpr c4
   subst c4
   have H1:(if a0=3 then (some 3) else (if a0=4 then (some 1) else (if a0=7 then (some 1) else (some 0))))=some r:=by rw [if_neg (show ¬ (false=true) by decide)] at H;exact H
   clear H
   have H:=H1
   clear H1
   by_cases c5:a0=3
   ·rw [if_pos c5] at H
    have c5b0:(a0 == 3)=true:=beq_iff_eq.mpr c5
    have c5b1:(a0 != 3)=false:=bne_eq_false_iff_eq.mpr c5
    clear c5
    obtain rfl:=oJ H
    go_wp2
    go_ret
    exact ⟨by first|rfl|(simp;done)|(simp [*];done),by repeat (first|exact Drawn0.refl _|apply Drawn0.step)⟩
   rw [if_neg c5] at H
   have c5b0:(a0 == 3)=false:=beq_eq_false_iff_ne.mpr c5
   have c5b1:(a0 != 3)=true:=bne_iff_ne.mpr c5
   by_cases c6:a0=4
   ·rw [if_pos c6] at H
    have c6b0:(a0 == 4)=true:=beq_iff_eq.mpr c6
    have c6b1:(a0 != 4)=false:=bne_eq_false_iff_eq.mpr c6
    clear c6
    obtain rfl:=oJ H
    go_wp2
    go_ret
    exact ⟨by first|rfl|(simp;done)|(simp [*];done),by repeat (first|exact Drawn0.refl _|apply Drawn0.step)⟩
   rw [if_neg c6] at H
   have c6b0:(a0 == 4)=false:=beq_eq_false_iff_ne.mpr c6
   have c6b1:(a0 != 4)=true:=bne_iff_ne.mpr c6
   by_cases c7:a0=7
   rotate_left
   ·rw [if_neg c7] at H
    have c7b0:(a0 == 7)=false:=beq_eq_false_iff_ne.mpr c7
    have c7b1:(a0 != 7)=true:=bne_iff_ne.mpr c7
    obtain rfl:=oJ H
    go_wp2
    go_ret
    exact ⟨by first|rfl|(simp;done)|(simp [*];done),by repeat (first|exact Drawn0.refl _|apply Drawn0.step)⟩

   rw [if_pos c7] at H
   have c7b0:(a0 == 7)=true:=beq_iff_eq.mpr c7
   have c7b1:(a0 != 7)=false:=bne_eq_false_iff_eq.mpr c7
   clear c7
   obtain rfl:=oJ H
   go_wp2
   go_ret
   exact ⟨by first|rfl|(simp;done)|(simp [*];done),by repeat (first|exact Drawn0.refl _|apply Drawn0.step)⟩
end Go.Proofs.Ytiifanjjohophaa.PFnSigsDrain
