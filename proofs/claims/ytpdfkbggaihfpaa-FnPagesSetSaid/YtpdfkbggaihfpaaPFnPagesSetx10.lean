/- Proved here, without a condition beyond those that each theorem states: what the Go functions named below do is what the plain functions of the same names say. Written by xprint.py, a program of this session. -/
import Derived.Test.YtpdfkbggaihfpaaPFnPagesSetx0
namespace Go.Proofs.Ytpdfkbggaihfpaa.PFnPagesSet
open Go.RowKit Go.Proofs.YtpdfkbggaihfpaaW.PrintWords Go.Proofs.YtpdfkbggaihfpaaW.PrintLast Go.Proofs.YtpdfkbggaihfpaaW.PrintMore
attribute [local go_sem] max2_int min2_int max_two min_two max_three min_three max_four min_four   -- for this text's walks alone
set_option linter.unusedVariables false
set_option linter.unusedSimpArgs false

attribute [local go_sem ↓] isSome_setCell_
/-! ### impl_with: function 49 -/
theorem impl_with.free (w : World) (e : TypeId) (s : ByteArray) (j : Nat) (hj : j < s.size) : (Lib.bytesWorld w e s).frozen? ⟨w.heap.size, j, none⟩ = false := by
 have h : s.size ≤ (Lib.bytesCells w e s).size := by
  unfold Lib.bytesCells
  rw [Array.size_append, Array.size_map]
  show s.size ≤ s.data.size + _
  exact Nat.le_add_right _ _
 unfold World.frozen?
 simp only [Lib.bytesWorld_at_new]
 rw [dF (by omega)]
 rfl
theorem impl_with.set (w : World) (e : TypeId) (s : ByteArray) (hs : s.size ≤ 9223372036854775807) (j : Nat) (hj : j < s.size) (x : Int) :
  ReadsInt ((Lib.bytesWorld w e s).setCell ⟨w.heap.size, j, none⟩ (.int .u8 x)) .u8 (some ⟨w.heap.size, 0, none⟩) s.size ((bytesOf s).set j x) := by
 have hr := bytes_reads w e s hs
 refine ⟨by rw [List.length_set];exact hr.1, hs, fun hp => ⟨_, rfl, fun i hi => ?_⟩⟩
 obtain ⟨ad, ea, hc⟩ := hr.2.2 hp
 cases ea
 have hci := hc i hi
 rw [aP] at hci ⊢
 by_cases c : i = j
 ·subst c
  rw [World.cell?_setCell_same _ _ _ hci]
  simp [List.getD_eq_getElem?_getD, List.getElem?_set, hr.1, hi]
 rw [World.cell?_setCell_other _ _ _ _ (by intro q;injection q with _ q2;exact c q2.symm), hci]
 simp [List.getD_eq_getElem?_getD, List.getElem?_set, Ne.symm c]
def impl_with.f (a0 : ByteArray) (a1 a2 : Int) : Option ByteArray := if a0.size ≤ 9223372036854775807 then (if 0 ≤ a1 then (if a1 < (a0.size : Int) then some (strOfNums ((bytesOf a0).set a1.toNat (a2 % 256))) else none) else none) else none
set_option maxHeartbeats 2000000 in
set_option maxRecDepth 100000 in
theorem impl_with.calls (a0:ByteArray) (a1 a2:Int) (r:ByteArray) (w:World) (h:impl_with.f a0 a1 a2=some r) :
 Calls Try.prog 49 #[.string a0,.int .i64 a1,.int .i64 a2] w fun e w'=>e=.returned (.string r)∧Below w.heap.size w w':=by
 have hu9:=Try.underlying9
 have hu22:=Try.underlying22
 have hu5:=Try.underlying5
 have hu3:=Try.underlying3
 unfold impl_with.f at h
 have c0:a0.size≤9223372036854775807:=by
  by_cases c:a0.size≤9223372036854775807
  ·exact c
  rw [if_neg c] at h;cases h
 rw [if_pos c0] at h
 have c1:0≤a1:=by
  by_cases c:0≤a1
  ·exact c
  rw [if_neg c] at h;cases h
 rw [if_pos c1] at h
 have c2:a1<(a0.size:Int):=by
  by_cases c:a1<(a0.size:Int)
  ·exact c
  rw [if_neg c] at h;cases h
 rw [if_pos c2] at h
 obtain rfl:=oJ h
 have hm:=Am c0
 have h1:=Am c1
 have h2:=Am c2
 have p1:=eq_true c1
 have p2:=eq_true c2
 clear h c0 c1 c2
 have kb:=fun W=>print_bytes (P:=Try.prog) 9 22 5 hu9 hu22 hu5 a0 W
 have HB:=Am (bJ w.heap.size w)
 have hlt:a1.toNat<a0.size:=by have:=h1.out;have:=h2.out;omega
 have hcz:=Lib.bytesWorld_cell w 5 a0 a1.toNat hlt
 have hfz:=impl_with.free w 5 a0 a1.toNat hlt
 have hst:=string_of_reads (P:=Try.prog) (src:=22) (dst:=9) (e:=5) (c:=grownCap w a0.size 0 5) hu22 hu5 hu9 (impl_with.set w 5 a0 hm.out a1.toNat hlt (a2 % 256))
 have hbl:=Am (bS (bytes_below HB.out (nR _) 5 a0) (nR _):Below w.heap.size w ((Lib.bytesWorld w 5 a0).setCell ⟨w.heap.size,a1.toNat,none⟩ (.int .u8 (a2 % 256))))
 go_enter Try.func49,Try.ntmps49
 go_wp2
 go_ret
 exact ⟨rfl,hbl.out⟩

end Go.Proofs.Ytpdfkbggaihfpaa.PFnPagesSet
