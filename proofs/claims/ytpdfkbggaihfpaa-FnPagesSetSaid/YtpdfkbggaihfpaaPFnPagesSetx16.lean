/- Proved here, without a condition beyond those that each theorem states: what the Go functions named below do is what the plain functions of the same names say. Written by xprint.py, a program of this session. -/
import Derived.Test.YtpdfkbggaihfpaaPFnPagesSetx0
namespace Go.Proofs.Ytpdfkbggaihfpaa.PFnPagesSet
open Go.RowKit Go.Proofs.YtpdfkbggaihfpaaW.PrintWords Go.Proofs.YtpdfkbggaihfpaaW.PrintLast Go.Proofs.YtpdfkbggaihfpaaW.PrintMore
attribute [local go_sem] max2_int min2_int max_two min_two max_three min_three max_four min_four   -- for this text's walks alone
set_option linter.unusedVariables false
set_option linter.unusedSimpArgs false

attribute [local go_sem ↓] isSome_setCell_
/-! ### laws_qdTexts: function 25 -/
def laws_qdTexts.l0 : Nat → List ByteArray → List ByteArray → Int → Option (Bool)
|0, _, _, _ => none
|k + 1, x0, x1, x5 => if x5 < (x0.length : Int) then (if 0 ≤ x5 then (if x5 < (x1.length : Int) then (if (rdOf ByteArray.empty x0 x5).toList = (rdOf ByteArray.empty x1 x5).toList then (laws_qdTexts.l0 k x0 x1 (wrap64 (x5 + 1))) else (some false)) else (none)) else (none)) else (some true)
def laws_qdTexts.f (k : Nat) (l0 : List ByteArray) (l1 : List ByteArray) : Option (Bool) := if (l0.length : Int) = (l1.length : Int) then (laws_qdTexts.l0 k l0 l1 0) else (some false)
theorem laws_qdTexts.mono_l : ∀ k, (∀ y0 y1 y2, LeO (laws_qdTexts.l0 k y0 y1 y2) (laws_qdTexts.l0 (k + 1) y0 y1 y2))
|0 => fun _ _ _ r h => by simp [laws_qdTexts.l0] at h
|k + 1 => by
  have ih0 := laws_qdTexts.mono_l k
  ·intro y0 y1 y2
   unfold laws_qdTexts.l0
   repeat' first
  |(with_reducible exact ih0 _ _ _)
  |(with_reducible exact LeO.refl _)
  |(with_reducible exact LeO.none _)
  |(with_reducible refine LeO.ite ?_ ?_)
  |(with_reducible refine LeO.bind ?_ (fun _ => ?_))
  |exact ih0 _ _ _
  |exact LeO.none _
  |refine LeO.ite ?_ ?_
  |refine LeO.bind ?_ (fun _ => ?_)
theorem laws_qdTexts.mono : ∀ a0 a1 k, LeO (laws_qdTexts.f k a0 a1) (laws_qdTexts.f (k + 1) a0 a1) := by
 intro a0 a1 k
 have ih0 := laws_qdTexts.mono_l k
 unfold laws_qdTexts.f
 repeat' first
  |(with_reducible exact ih0 _ _ _)
  |(with_reducible exact LeO.refl _)
  |(with_reducible exact LeO.none _)
  |(with_reducible refine LeO.ite ?_ ?_)
  |(with_reducible refine LeO.bind ?_ (fun _ => ?_))
  |exact ih0 _ _ _
  |exact LeO.none _
  |refine LeO.ite ?_ ?_
  |refine LeO.bind ?_ (fun _ => ?_)
set_option maxHeartbeats 2000000 in
set_option maxRecDepth 100000 in
theorem laws_qdTexts.calls (k:Nat) (A0:Option Addr) (c0:Nat) (l0:List ByteArray) (A1:Option Addr) (c1:Nat) (l1:List ByteArray) (r:Bool) (w:World) (hr0:Kd.C Kd.string w A0 l0.length l0) (hc0:l0.length≤c0) (hr1:Kd.C Kd.string w A1 l1.length l1) (hc1:l1.length≤c1) (h:laws_qdTexts.f k l0 l1=some r) :
  Calls Try.prog 25 #[.slice A0 l0.length c0,.slice A1 l1.length c1] w fun e w'=>e=.returned (.bool r)∧Drawn0 w w':=by
 have HR0:=Am hr0
 have HC0:=Am hc0
 clear hr0 hc0
 have HR1:=Am hr1
 have HC1:=Am hc1
 clear hr1 hc1
 have H:(if (l0.length:Int)=(l1.length:Int) then (laws_qdTexts.l0 k l0 l1 0) else (some false))=some r:=h
 clear h
 by_cases c3:(l0.length:Int)=(l1.length:Int)
 rotate_left
 ·rw [if_neg c3] at H
  have c3b0:((l0.length:Int) == (l1.length:Int))=false:=beq_eq_false_iff_ne.mpr c3
  have c3b1:((l0.length:Int) != (l1.length:Int))=true:=bne_iff_ne.mpr c3
  have c3b2:(l0.length == l1.length)=false:=by first|simpa using c3|(simp at c3 ⊢;omega)
  obtain rfl:=oJ H
  go_enter Try.func25,Try.ntmps25
  go_wp2
  repeat (go_quiet (fail);try go_wp2)
  go_ret
  exact ⟨by first|rfl|(simp;done)|(simp [*];done),by repeat (first|exact Drawn0.refl _|apply Drawn0.step)⟩


 rw [if_pos c3] at H
 have c3b0:((l0.length:Int) == (l1.length:Int))=true:=beq_iff_eq.mpr c3
 have c3b1:((l0.length:Int) != (l1.length:Int))=false:=bne_eq_false_iff_eq.mpr c3
 have c3b2:(l0.length == l1.length)=true:=by first|simpa using c3|(simp at c3 ⊢;omega)
 clear c3
 have H':=Am H
 clear H
 go_enter Try.func25,Try.ntmps25
 go_wp2
 repeat (go_quiet (fail);try go_wp2)
 go_loopg [5] k (fun kq v5 w'=>∃ (x5_1:Int),v5=.int .i64 x5_1∧Aside0 (laws_qdTexts.l0 kq l0 l1 x5_1=some r)∧Aside0 (kq≤k)∧Drawn0 w w')
 case atStart=>exact ⟨(0),(by first|rfl|(simp;done)|(simp [*];done)),H',⟨nR _⟩,by repeat (first|exact Drawn0.refl _|apply Drawn0.step)⟩
 case round =>
  clear H'
  try clear c1
  try clear c2
  try clear p2
  try clear c3
  try clear c3b0
  try clear c3b1
  try clear c3b2
  obtain ⟨x5_1,rfl,HA,HK1,⟨m1,rfl⟩⟩:=hrel
  cases gk with
 |zero=>exact absurd HA.out (by simp [laws_qdTexts.l0])
 |succ k1 =>
   have H:=HA.out
   clear HA
   simp only [laws_qdTexts.l0] at H
   by_cases c4:x5_1<(l0.length:Int)
   rotate_left
   ·rw [if_neg c4] at H
    have c4b0:decide (x5_1<(l0.length:Int))=false:=dF c4
    clear c4
    obtain rfl:=oJ H
    go_wp2
    repeat (go_quiet (fail);try go_wp2)
    go_ret
    exact ⟨by first|rfl|(simp;done)|(simp [*];done),by repeat (first|exact Drawn0.refl _|apply Drawn0.step)⟩
   rw [if_pos c4] at H
   have c4b0:decide (x5_1<(l0.length:Int))=true:=dT c4
   clear c4
   by_cases c5:0≤x5_1
   rotate_left
   ·rw [if_neg c5] at H
    exact absurd H (by simp)
   rw [if_pos c5] at H
   have c5b0:decide (0≤x5_1)=true:=dT c5
   clear c5
   by_cases c6:x5_1<(l1.length:Int)
   rotate_left
   ·rw [if_neg c6] at H
    exact absurd H (by simp)
   rw [if_pos c6] at H
   have c6b0:decide (x5_1<(l1.length:Int))=true:=dT c6
   clear c6
   by_cases c7:(rdOf ByteArray.empty l0 x5_1).toList=(rdOf ByteArray.empty l1 x5_1).toList
   rotate_left
   ·rw [if_neg c7] at H
    have c7b0:((rdOf ByteArray.empty l0 x5_1).toList == (rdOf ByteArray.empty l1 x5_1).toList)=false:=beq_eq_false_iff_ne.mpr c7
    have c7b1:((rdOf ByteArray.empty l0 x5_1).toList != (rdOf ByteArray.empty l1 x5_1).toList)=true:=bne_iff_ne.mpr c7
    obtain rfl:=oJ H
    have p304:0≤(x5_1:Int):=oE (by first|(with_reducible assumption)|assumption)
    have q304:x5_1<(l0.length:Int):=oE (by first|(with_reducible assumption)|assumption)
    obtain ⟨ad304,e304,hx304_0⟩:=Kd.at_string HR0.out x5_1 p304 q304
    cases e304
    replace p304:=eq_true p304
    replace q304:=eq_true q304
    have p305:0≤(x5_1:Int):=oE (by first|(with_reducible assumption)|assumption)
    have q305:x5_1<(l1.length:Int):=oE (by first|(with_reducible assumption)|assumption)
    obtain ⟨ad305,e305,hx305_0⟩:=Kd.at_string HR1.out x5_1 p305 q305
    cases e305
    replace p305:=eq_true p305
    replace q305:=eq_true q305
    go_wp2
    repeat (go_quiet (fail);try go_wp2)
    go_ret
    exact ⟨by first|rfl|(simp;done)|(simp [*];done),by repeat (first|exact Drawn0.refl _|apply Drawn0.step)⟩
   rw [if_pos c7] at H
   have c7b0:((rdOf ByteArray.empty l0 x5_1).toList == (rdOf ByteArray.empty l1 x5_1).toList)=true:=beq_iff_eq.mpr c7
   have c7b1:((rdOf ByteArray.empty l0 x5_1).toList != (rdOf ByteArray.empty l1 x5_1).toList)=false:=bne_eq_false_iff_eq.mpr c7
   clear c7
   have H':=Am H
   clear H
   have p304:0≤(x5_1:Int):=oE (by first|(with_reducible assumption)|assumption)
   have q304:x5_1<(l0.length:Int):=oE (by first|(with_reducible assumption)|assumption)
   obtain ⟨ad304,e304,hx304_0⟩:=Kd.at_string HR0.out x5_1 p304 q304
   cases e304
   replace p304:=eq_true p304
   replace q304:=eq_true q304
   have p305:0≤(x5_1:Int):=oE (by first|(with_reducible assumption)|assumption)
   have q305:x5_1<(l1.length:Int):=oE (by first|(with_reducible assumption)|assumption)
   obtain ⟨ad305,e305,hx305_0⟩:=Kd.at_string HR1.out x5_1 p305 q305
   cases e305
   replace p305:=eq_true p305
   replace q305:=eq_true q305
   go_wp2
   repeat (go_quiet (fail);try go_wp2)
   go_roundg k1
   case measure=>have:=HK1.out;omega
   case rel=>exact ⟨(wrap64 (x5_1 + 1)),(by first|rfl|(simp;done)|(simp [*];done)),H',⟨by have:=HK1.out;omega⟩,by repeat (first|exact Drawn0.refl _|apply Drawn0.step)⟩/-! ### laws_qdInts: function 54 -/
def laws_qdInts.l0 : Nat → List Int → List Int → Int → Option (Bool)
|0, _, _, _ => none
|k + 1, x0, x1, x5 => if x5 < (x0.length : Int) then (if 0 ≤ x5 then (if x5 < (x1.length : Int) then (if (rd x0 x5) = (rd x1 x5) then (laws_qdInts.l0 k x0 x1 (wrap64 (x5 + 1))) else (some false)) else (none)) else (none)) else (some true)
def laws_qdInts.f (k : Nat) (l0 : List Int) (l1 : List Int) : Option (Bool) := if (l0.length : Int) = (l1.length : Int) then (laws_qdInts.l0 k l0 l1 0) else (some false)
theorem laws_qdInts.mono_l : ∀ k, (∀ y0 y1 y2, LeO (laws_qdInts.l0 k y0 y1 y2) (laws_qdInts.l0 (k + 1) y0 y1 y2))
|0 => fun _ _ _ r h => by simp [laws_qdInts.l0] at h
|k + 1 => by
  have ih0 := laws_qdInts.mono_l k
  ·intro y0 y1 y2
   unfold laws_qdInts.l0
   repeat' first
  |(with_reducible exact ih0 _ _ _)
  |(with_reducible exact LeO.refl _)
  |(with_reducible exact LeO.none _)
  |(with_reducible refine LeO.ite ?_ ?_)
  |(with_reducible refine LeO.bind ?_ (fun _ => ?_))
  |exact ih0 _ _ _
  |exact LeO.none _
  |refine LeO.ite ?_ ?_
  |refine LeO.bind ?_ (fun _ => ?_)
theorem laws_qdInts.mono : ∀ a0 a1 k, LeO (laws_qdInts.f k a0 a1) (laws_qdInts.f (k + 1) a0 a1) := by
 intro a0 a1 k
 have ih0 := laws_qdInts.mono_l k
 unfold laws_qdInts.f
 repeat' first
  |(with_reducible exact ih0 _ _ _)
  |(with_reducible exact LeO.refl _)
  |(with_reducible exact LeO.none _)
  |(with_reducible refine LeO.ite ?_ ?_)
  |(with_reducible refine LeO.bind ?_ (fun _ => ?_))
  |exact ih0 _ _ _
  |exact LeO.none _
  |refine LeO.ite ?_ ?_
  |refine LeO.bind ?_ (fun _ => ?_)
set_option maxHeartbeats 2000000 in
set_option maxRecDepth 100000 in
theorem laws_qdInts.calls (k:Nat) (A0:Option Addr) (c0:Nat) (l0:List Int) (A1:Option Addr) (c1:Nat) (l1:List Int) (r:Bool) (w:World) (hr0:Kd.C (Kd.int .i64) w A0 l0.length l0) (hc0:l0.length≤c0) (hr1:Kd.C (Kd.int .i64) w A1 l1.length l1) (hc1:l1.length≤c1) (h:laws_qdInts.f k l0 l1=some r) :
  Calls Try.prog 54 #[.slice A0 l0.length c0,.slice A1 l1.length c1] w fun e w'=>e=.returned (.bool r)∧Drawn0 w w':=by
 have HR0:=Am hr0
 have HC0:=Am hc0
 clear hr0 hc0
 have HR1:=Am hr1
 have HC1:=Am hc1
 clear hr1 hc1
 have H:(if (l0.length:Int)=(l1.length:Int) then (laws_qdInts.l0 k l0 l1 0) else (some false))=some r:=h
 clear h
 by_cases c3:(l0.length:Int)=(l1.length:Int)
 rotate_left
 ·rw [if_neg c3] at H
  have c3b0:((l0.length:Int) == (l1.length:Int))=false:=beq_eq_false_iff_ne.mpr c3
  have c3b1:((l0.length:Int) != (l1.length:Int))=true:=bne_iff_ne.mpr c3
  have c3b2:(l0.length == l1.length)=false:=by first|simpa using c3|(simp at c3 ⊢;omega)
  obtain rfl:=oJ H
  go_enter Try.func54,Try.ntmps54
  go_wp2
  repeat (go_quiet (fail);try go_wp2)
  go_ret
  exact ⟨by first|rfl|(simp;done)|(simp [*];done),by repeat (first|exact Drawn0.refl _|apply Drawn0.step)⟩


 rw [if_pos c3] at H
 have c3b0:((l0.length:Int) == (l1.length:Int))=true:=beq_iff_eq.mpr c3
 have c3b1:((l0.length:Int) != (l1.length:Int))=false:=bne_eq_false_iff_eq.mpr c3
 have c3b2:(l0.length == l1.length)=true:=by first|simpa using c3|(simp at c3 ⊢;omega)
 clear c3
 have H':=Am H
 clear H
 go_enter Try.func54,Try.ntmps54
 go_wp2
 repeat (go_quiet (fail);try go_wp2)
 go_loopg [5] k (fun kq v5 w'=>∃ (x5_1:Int),v5=.int .i64 x5_1∧Aside0 (laws_qdInts.l0 kq l0 l1 x5_1=some r)∧Aside0 (kq≤k)∧Drawn0 w w')
 case atStart=>exact ⟨(0),(by first|rfl|(simp;done)|(simp [*];done)),H',⟨nR _⟩,by repeat (first|exact Drawn0.refl _|apply Drawn0.step)⟩
 case round =>
  clear H'
  try clear c1
  try clear p2
  try clear c3
  try clear c3b0
  try clear c3b1
  try clear c3b2
  obtain ⟨x5_1,rfl,HA,HK1,⟨m1,rfl⟩⟩:=hrel
  cases gk with
 |zero=>exact absurd HA.out (by simp [laws_qdInts.l0])
 |succ k1 =>
   have H:=HA.out
   clear HA
   simp only [laws_qdInts.l0] at H
   by_cases c4:x5_1<(l0.length:Int)
   rotate_left
   ·rw [if_neg c4] at H
    have c4b0:decide (x5_1<(l0.length:Int))=false:=dF c4
    clear c4
    obtain rfl:=oJ H
    go_wp2
    repeat (go_quiet (fail);try go_wp2)
    go_ret
    exact ⟨by first|rfl|(simp;done)|(simp [*];done),by repeat (first|exact Drawn0.refl _|apply Drawn0.step)⟩
   rw [if_pos c4] at H
   have c4b0:decide (x5_1<(l0.length:Int))=true:=dT c4
   clear c4
   by_cases c5:0≤x5_1
   rotate_left
   ·rw [if_neg c5] at H
    exact absurd H (by simp)
   rw [if_pos c5] at H
   have c5b0:decide (0≤x5_1)=true:=dT c5
   clear c5
   by_cases c6:x5_1<(l1.length:Int)
   rotate_left
   ·rw [if_neg c6] at H
    exact absurd H (by simp)
   rw [if_pos c6] at H
   have c6b0:decide (x5_1<(l1.length:Int))=true:=dT c6
   clear c6
   by_cases c7:(rd l0 x5_1)=(rd l1 x5_1)
   rotate_left
   ·rw [if_neg c7] at H
    have c7b0:((rd l0 x5_1) == (rd l1 x5_1))=false:=beq_eq_false_iff_ne.mpr c7
    have c7b1:((rd l0 x5_1) != (rd l1 x5_1))=true:=bne_iff_ne.mpr c7
    obtain rfl:=oJ H
    have p306:0≤(x5_1:Int):=oE (by first|(with_reducible assumption)|assumption)
    have q306:x5_1<(l0.length:Int):=oE (by first|(with_reducible assumption)|assumption)
    obtain ⟨ad306,e306,hx306_0⟩:=Kd.at_int HR0.out x5_1 p306 q306
    cases e306
    replace p306:=eq_true p306
    replace q306:=eq_true q306
    have p307:0≤(x5_1:Int):=oE (by first|(with_reducible assumption)|assumption)
    have q307:x5_1<(l1.length:Int):=oE (by first|(with_reducible assumption)|assumption)
    obtain ⟨ad307,e307,hx307_0⟩:=Kd.at_int HR1.out x5_1 p307 q307
    cases e307
    replace p307:=eq_true p307
    replace q307:=eq_true q307
    go_wp2
    repeat (go_quiet (fail);try go_wp2)
    go_ret
    exact ⟨by first|rfl|(simp;done)|(simp [*];done),by repeat (first|exact Drawn0.refl _|apply Drawn0.step)⟩
   rw [if_pos c7] at H
   have c7b0:((rd l0 x5_1) == (rd l1 x5_1))=true:=beq_iff_eq.mpr c7
   have c7b1:((rd l0 x5_1) != (rd l1 x5_1))=false:=bne_eq_false_iff_eq.mpr c7
   clear c7
   have H':=Am H
   clear H
   have p306:0≤(x5_1:Int):=oE (by first|(with_reducible assumption)|assumption)
   have q306:x5_1<(l0.length:Int):=oE (by first|(with_reducible assumption)|assumption)
   obtain ⟨ad306,e306,hx306_0⟩:=Kd.at_int HR0.out x5_1 p306 q306
   cases e306
   replace p306:=eq_true p306
   replace q306:=eq_true q306
   have p307:0≤(x5_1:Int):=oE (by first|(with_reducible assumption)|assumption)
   have q307:x5_1<(l1.length:Int):=oE (by first|(with_reducible assumption)|assumption)
   obtain ⟨ad307,e307,hx307_0⟩:=Kd.at_int HR1.out x5_1 p307 q307
   cases e307
   replace p307:=eq_true p307
   replace q307:=eq_true q307
   go_wp2
   repeat (go_quiet (fail);try go_wp2)
   go_roundg k1
   case measure=>have:=HK1.out;omega
   case rel=>exact ⟨(wrap64 (x5_1 + 1)),(by first|rfl|(simp;done)|(simp [*];done)),H',⟨by have:=HK1.out;omega⟩,by repeat (first|exact Drawn0.refl _|apply Drawn0.step)⟩/-! ### laws_qdPages: function 19 -/
def laws_qdPages.f (k : Nat) (l0_0 : List ByteArray) (l0_1 : List Int) (l1_0 : List ByteArray) (l1_1 : List Int) : Option (Bool) := (laws_qdTexts.f k l0_0 l1_0).bind fun t310 => (if t310 = true then ((laws_qdInts.f k l0_1 l1_1).bind fun t311 => (some t311)) else (some false))
theorem laws_qdPages.mono : ∀ a0 a1 a2 a3 k, LeO (laws_qdPages.f k a0 a1 a2 a3) (laws_qdPages.f (k + 1) a0 a1 a2 a3) := by
 intro a0 a1 a2 a3 k
 unfold laws_qdPages.f
 repeat' first
  |(with_reducible exact laws_qdInts.mono _ _ _)
  |(with_reducible exact laws_qdTexts.mono _ _ _)
  |(with_reducible exact LeO.refl _)
  |(with_reducible exact LeO.none _)
  |(with_reducible refine LeO.ite ?_ ?_)
  |(with_reducible refine LeO.bind ?_ (fun _ => ?_))
  |exact laws_qdInts.mono _ _ _
  |exact laws_qdTexts.mono _ _ _
  |exact LeO.none _
  |refine LeO.ite ?_ ?_
  |refine LeO.bind ?_ (fun _ => ?_)
set_option maxHeartbeats 2000000 in
set_option maxRecDepth 100000 in
theorem laws_qdPages.calls (k:Nat) (A0_0:Option Addr) (c0_0:Nat) (l0_0:List ByteArray) (A0_1:Option Addr) (c0_1:Nat) (l0_1:List Int) (A1_0:Option Addr) (c1_0:Nat) (l1_0:List ByteArray) (A1_1:Option Addr) (c1_1:Nat) (l1_1:List Int) (r:Bool) (w:World) (hr0_0:Kd.C Kd.string w A0_0 l0_0.length l0_0) (hc0_0:l0_0.length≤c0_0) (hr0_1:Kd.C (Kd.int .i64) w A0_1 l0_1.length l0_1) (hc0_1:l0_1.length≤c0_1) (hr1_0:Kd.C Kd.string w A1_0 l1_0.length l1_0) (hc1_0:l1_0.length≤c1_0) (hr1_1:Kd.C (Kd.int .i64) w A1_1 l1_1.length l1_1) (hc1_1:l1_1.length≤c1_1) (h:laws_qdPages.f k l0_0 l0_1 l1_0 l1_1=some r) :
  Calls Try.prog 19 #[.agg #[.slice A0_0 l0_0.length c0_0,.slice A0_1 l0_1.length c0_1],.agg #[.slice A1_0 l1_0.length c1_0,.slice A1_1 l1_1.length c1_1]] w fun e w'=>e=.returned (.bool r)∧Below w.heap.size w w':=by
 have hu26:=Try.underlying26
 have HR0_0:=Am hr0_0
 have HC0_0:=Am hc0_0
 clear hr0_0 hc0_0
 have HR0_1:=Am hr0_1
 have HC0_1:=Am hc0_1
 clear hr0_1 hc0_1
 have HR1_0:=Am hr1_0
 have HC1_0:=Am hc1_0
 clear hr1_0 hc1_0
 have HR1_1:=Am hr1_1
 have HC1_1:=Am hc1_1
 clear hr1_1 hc1_1
 have HB:=Am (bJ w.heap.size w)
 have H:((laws_qdTexts.f k l0_0 l1_0).bind fun t310=>(if t310=true then ((laws_qdInts.f k l0_1 l1_1).bind fun t311=>(some t311)) else (some false)))=some r:=h
 clear h
 replace H:=oC H
 obtain ⟨t310,A30,H⟩:=H
 replace H:(if t310=true then ((laws_qdInts.f k l0_1 l1_1).bind fun t311=>(some t311)) else (some false))=some r:=H
 have A3:=Am A30
 clear A30
 by_cases c4:t310=true
 rotate_left
 ·replace c4:=Bool.eq_false_iff.mpr c4
  subst c4
  have H1:(some false)=some r:=by rw [if_neg (show ¬ (false=true) by decide)] at H;exact H
  clear H
  have H:=H1
  clear H1
  obtain rfl:=oJ H
  go_enter Try.func19,Try.ntmps19
  go_wp2_with (first|((with_reducible refine gD (N:=2) rfl ?_);refine bI ?hg (N:=2) ?hd (cs:=#[.slice A0_0 l0_0.length c0_0,.slice A0_1 l0_1.length c0_1]) (t:=26) ?hr ?_;(case hd=>rfl);(case hg=>rfl);(case hr=>first|(go_simp;done)|(go_simp;rfl));intro Ba hg w11 hbox hb;have n0_:=Am (bP (by repeat (first|(with_reducible first|exact HB.out|apply oA|apply pN|apply o1)|exact HB.out)) hb);have n1_:=Am (hbox);have n2_:=Am ((by rw [hg];exact (bZ (by repeat (first|(with_reducible first|exact HB.out|apply oA|apply pN|apply o1)|exact HB.out))):w.heap.size≤Ba));have n3_:=Am ((by rw [hg];exact (bZ (by repeat (first|(with_reducible first|exact HB.out|apply oA|apply pN|apply o1)|exact HB.out))):w.heap.size≤Ba));clear HB;revert n0_ n1_ n2_ n3_;intro HB Bb Bi Bd;clear hb hbox hg)|((with_reducible refine gD (N:=3) rfl ?_);refine bI ?hg (N:=3) ?hd (cs:=#[.slice A1_0 l1_0.length c1_0,.slice A1_1 l1_1.length c1_1]) (t:=26) ?hr ?_;(case hd=>rfl);(case hg=>rfl);(case hr=>first|(go_simp;done)|(go_simp;rfl));intro Bc hg w12 hbox hb;have n0_:=Am (bX Bb.out hb);have n1_:=Am (bP (by repeat (first|(with_reducible first|exact HB.out|apply oA|apply pN|apply o1|refine bS ?_ Bd.out)|exact HB.out)) hb);have n2_:=Am (hbox);have n3_:=Am ((by rw [hg];exact (bZ (by repeat (first|(with_reducible first|exact HB.out|apply oA|apply pN|apply o1|refine bS ?_ Bd.out)|exact HB.out))):w.heap.size≤Bc));have n4_:=Am ((by rw [hg];exact (bZ (by repeat (first|(with_reducible first|exact HB.out|apply oA|apply pN|apply o1|refine bS ?_ Bd.out)|exact HB.out))):w.heap.size≤Bc));have n5_:=Am ((nL Bb.out hg));have n6_:=Am ((nG Bb.out hg));clear Bb HB;revert n0_ n1_ n2_ n3_ n4_ n5_ n6_;intro Bb HB Be Bj Bh Bf Bg;clear hb hbox hg;have BA:=Bf.out;have BB:=Bg.out;have Bo:=cz0 Bb.out;have Bp:=cz1 Bb.out;have Bq:=bF Bb.out 0;have Br:=bF Bb.out 1;have Bs:=cz0 Be.out;have Bt:=cz1 Be.out;have Bu:=bF Be.out 0;have Bv:=bF Be.out 1)|((with_reducible refine gC (f:=25) rfl ?_);refine goesL_ (some 9) rfl rfl Try.func25 (by kernel_rfl) rfl #[.slice A0_0 l0_0.length c0_0,.slice A1_0 l1_0.length c1_0] rfl (by (try simp only [lM,lC,lN]);first|done|rfl|(simp only [lD,lT];rfl)) ?_;(with_reducible refine (laws_qdTexts.calls k _ _ l0_0 _ _ l1_0 false _ ?side1 ?side2 ?side3 ?side4 A3.out).mono ?_);(case side1=>exact cL (cB HR0_0.out HB.out));(case side2=>exact HC0_0.out);(case side3=>exact cL (cB HR1_0.out HB.out));(case side4=>exact HC1_0.out);rintro e w' ⟨rfl,⟨nd,rfl⟩⟩;refine ⟨_,rfl,?_⟩))
  go_ret
  exact ⟨by first|rfl|(simp [errW_none,errW_some] <;> rfl)|(simp [*,errW_none,errW_some] <;> rfl),by repeat (first|(with_reducible first|exact HB.out|apply oA|apply pN|apply o1|refine bS ?_ Bd.out|refine bS ?_ Bh.out)|exact HB.out)⟩

 subst c4
 have H1:((laws_qdInts.f k l0_1 l1_1).bind fun t311=>(some t311))=some r:=by rw [if_pos rfl] at H;exact H
 clear H
 have H:=H1
 clear H1
 replace H:=oC H
 obtain ⟨t311,A50,H⟩:=H
 replace H:(some t311)=some r:=H
 have A5:=Am A50
 clear A50
 obtain rfl:=oJ H
 go_enter Try.func19,Try.ntmps19
 go_wp2_with (first|((with_reducible refine gD (N:=2) rfl ?_);refine bI ?hg (N:=2) ?hd (cs:=#[.slice A0_0 l0_0.length c0_0,.slice A0_1 l0_1.length c0_1]) (t:=26) ?hr ?_;(case hd=>rfl);(case hg=>rfl);(case hr=>first|(go_simp;done)|(go_simp;rfl));intro Ba hg w6 hbox hb;have n0_:=Am (bP (by repeat (first|(with_reducible first|exact HB.out|apply oA|apply pN|apply o1)|exact HB.out)) hb);have n1_:=Am (hbox);have n2_:=Am ((by rw [hg];exact (bZ (by repeat (first|(with_reducible first|exact HB.out|apply oA|apply pN|apply o1)|exact HB.out))):w.heap.size≤Ba));have n3_:=Am ((by rw [hg];exact (bZ (by repeat (first|(with_reducible first|exact HB.out|apply oA|apply pN|apply o1)|exact HB.out))):w.heap.size≤Ba));clear HB;revert n0_ n1_ n2_ n3_;intro HB Bb Bi Bd;clear hb hbox hg)|((with_reducible refine gD (N:=3) rfl ?_);refine bI ?hg (N:=3) ?hd (cs:=#[.slice A1_0 l1_0.length c1_0,.slice A1_1 l1_1.length c1_1]) (t:=26) ?hr ?_;(case hd=>rfl);(case hg=>rfl);(case hr=>first|(go_simp;done)|(go_simp;rfl));intro Bc hg w7 hbox hb;have n0_:=Am (bX Bb.out hb);have n1_:=Am (bP (by repeat (first|(with_reducible first|exact HB.out|apply oA|apply pN|apply o1|refine bS ?_ Bd.out)|exact HB.out)) hb);have n2_:=Am (hbox);have n3_:=Am ((by rw [hg];exact (bZ (by repeat (first|(with_reducible first|exact HB.out|apply oA|apply pN|apply o1|refine bS ?_ Bd.out)|exact HB.out))):w.heap.size≤Bc));have n4_:=Am ((by rw [hg];exact (bZ (by repeat (first|(with_reducible first|exact HB.out|apply oA|apply pN|apply o1|refine bS ?_ Bd.out)|exact HB.out))):w.heap.size≤Bc));have n5_:=Am ((nL Bb.out hg));have n6_:=Am ((nG Bb.out hg));clear Bb HB;revert n0_ n1_ n2_ n3_ n4_ n5_ n6_;intro Bb HB Be Bj Bh Bf Bg;clear hb hbox hg;have BC:=Bf.out;have BD:=Bg.out;have Bw:=cz0 Bb.out;have Bx:=cz1 Bb.out;have By:=bF Bb.out 0;have Bz:=bF Bb.out 1;have Bk:=cz0 Be.out;have Bl:=cz1 Be.out;have Bm:=bF Be.out 0;have Bn:=bF Be.out 1)|((with_reducible refine gC (f:=25) rfl ?_);refine goesL_ (some 9) rfl rfl Try.func25 (by kernel_rfl) rfl #[.slice A0_0 l0_0.length c0_0,.slice A1_0 l1_0.length c1_0] rfl (by (try simp only [lM,lC,lN]);first|done|rfl|(simp only [lD,lT];rfl)) ?_;(with_reducible refine (laws_qdTexts.calls k _ _ l0_0 _ _ l1_0 true _ ?side1 ?side2 ?side3 ?side4 A3.out).mono ?_);(case side1=>exact cL (cB HR0_0.out HB.out));(case side2=>exact HC0_0.out);(case side3=>exact cL (cB HR1_0.out HB.out));(case side4=>exact HC1_0.out);rintro e w' ⟨rfl,⟨nd,rfl⟩⟩;refine ⟨_,rfl,?_⟩)|(go_at_call 54;(with_reducible refine (laws_qdInts.calls k _ _ l0_1 _ _ l1_1 t311 _ ?side1 ?side2 ?side3 ?side4 A5.out).mono ?_);(case side1=>repeat (first|exact (cB HR0_1.out (by repeat (first|(with_reducible first|exact HB.out|apply oA|apply pN|apply o1|refine bS ?_ Bd.out|refine bS ?_ Bh.out)|exact HB.out)))|(with_reducible refine cA ?_ _)|(with_reducible refine cN ?_ _)|(with_reducible refine cD ?_)));(case side2=>exact HC0_1.out);(case side3=>repeat (first|exact (cB HR1_1.out (by repeat (first|(with_reducible first|exact HB.out|apply oA|apply pN|apply o1|refine bS ?_ Bd.out|refine bS ?_ Bh.out)|exact HB.out)))|(with_reducible refine cA ?_ _)|(with_reducible refine cN ?_ _)|(with_reducible refine cD ?_)));(case side4=>exact HC1_1.out);rintro e w' ⟨rfl,⟨nd,rfl⟩⟩))
 go_ret
 exact ⟨by first|rfl|(simp [errW_none,errW_some] <;> rfl)|(simp [*,errW_none,errW_some] <;> rfl),by repeat (first|(with_reducible first|exact HB.out|apply oA|apply pN|apply o1|refine bS ?_ Bd.out|refine bS ?_ Bh.out)|exact HB.out)⟩
end Go.Proofs.Ytpdfkbggaihfpaa.PFnPagesSet
