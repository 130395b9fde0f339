/- Proved here, without a condition beyond those that each theorem states: what the Go functions named below do is what the plain functions of the same names say. Written by xprint.py, a program of this session. -/
import Derived.Test.YtehekikjadjdaaaPFnExactSigsRunx0
import Derived.Test.YtehekikjadjdaaaPFnExactSigsRunx1
namespace Go.Proofs.Ytehekikjadjdaaa.PFnExactSigsRun
open Go.RowKit Go.Proofs.YtehekikjadjdaaaW.PrintWords Go.Proofs.YtehekikjadjdaaaW.PrintLast Go.Proofs.YtehekikjadjdaaaW.PrintMore
attribute [local go_sem] max2_int min2_int max_two min_two max_three min_three max_four min_four   -- for this text's walks alone
set_option linter.unusedVariables false
set_option linter.unusedSimpArgs false

attribute [local go_sem ↓] isSome_setCell_
/-! ### laws_toIntS: function 58 -/
def laws_toIntS.l0 : Nat → List Int → List Int → Int → Option (List Int)
|0, _, _, _ => none
|k + 1, x0, x3, x4 => if x4 < (x0.length : Int) then (if 0 ≤ x4 then (if x4 < (x3.length : Int) then (laws_toIntS.l0 k x0 (x3.set (x4 : Int).toNat (rd x0 x4)) (wrap64 (x4 + 1))) else (none)) else (none)) else (some x3)
def laws_toIntS.f (k : Nat) (l0 : List Int) : Option (List Int) := if 0 ≤ (l0.length : Int) then (if ((l0.length : Int) : Int).toNat ≤ 35184372088832 then (laws_toIntS.l0 k l0 (List.replicate ((l0.length : Int) : Int).toNat 0) 0) else (none)) else (none)
theorem laws_toIntS.mono_l : ∀ k, (∀ y0 y1 y2, LeO (laws_toIntS.l0 k y0 y1 y2) (laws_toIntS.l0 (k + 1) y0 y1 y2))
|0 => fun _ _ _ r h => by simp [laws_toIntS.l0] at h
|k + 1 => by
  have ih0 := laws_toIntS.mono_l k
  ·intro y0 y1 y2
   unfold laws_toIntS.l0
   repeat' first
  |(with_reducible exact ih0 _ _ _)
  |(with_reducible exact LeO.refl _)
  |(with_reducible exact LeO.none _)
  |(with_reducible refine LeO.ite ?_ ?_)
  |(with_reducible refine LeO.bind ?_ (fun _ => ?_))
  |exact ih0 _ _ _
  |exact LeO.none _
  |refine LeO.ite ?_ ?_
  |refine LeO.bind ?_ (fun _ => ?_)
theorem laws_toIntS.mono : ∀ a0 k, LeO (laws_toIntS.f k a0) (laws_toIntS.f (k + 1) a0) := by
 intro a0 k
 have ih0 := laws_toIntS.mono_l k
 unfold laws_toIntS.f
 repeat' first
  |(with_reducible exact ih0 _ _ _)
  |(with_reducible exact LeO.refl _)
  |(with_reducible exact LeO.none _)
  |(with_reducible refine LeO.ite ?_ ?_)
  |(with_reducible refine LeO.bind ?_ (fun _ => ?_))
  |exact ih0 _ _ _
  |exact LeO.none _
  |refine LeO.ite ?_ ?_
  |refine LeO.bind ?_ (fun _ => ?_)
set_option maxHeartbeats 2000000 in
set_option maxRecDepth 100000 in
theorem laws_toIntS.calls (k:Nat) (A0:Option Addr) (c0:Nat) (l0:List Int) (r:List Int) (w:World) (hr0:Kd.C (Kd.int .i64) w A0 l0.length l0) (hc0:l0.length≤c0) (h:laws_toIntS.f k l0=some r) :
  Calls Try.prog 58 #[.slice A0 l0.length c0] w fun e w'=>∃ v0_:Value,e=.returned (v0_)∧Kd.R (Kd.int .i64) 3 w' w.heap.size (fun _=>True) v0_ r∧Below w.heap.size w w':=by
 have HR0:=Am hr0
 have HC0:=Am hc0
 clear hr0 hc0
 have HB:=Am (bJ w.heap.size w)
 have H:(if 0≤(l0.length:Int) then (if ((l0.length:Int):Int).toNat≤35184372088832 then (laws_toIntS.l0 k l0 (List.replicate ((l0.length:Int):Int).toNat 0) 0) else (none)) else (none))=some r:=h
 clear h
 by_cases c2:0≤(l0.length:Int)
 rotate_left
 ·rw [if_neg c2] at H
  exact absurd H (by simp)


 rw [if_pos c2] at H
 have c2b0:=eq_true c2
 have c2b1:decide (0≤(l0.length:Int))=true:=dT c2
 clear c2
 by_cases c3:((l0.length:Int):Int).toNat≤35184372088832
 rotate_left
 ·rw [if_neg c3] at H
  exact absurd H (by simp)
 rw [if_pos c3] at H
 have c3b0:=eq_true c3
 have c3b1:decide (((l0.length:Int):Int).toNat≤35184372088832)=true:=dT c3
 clear c3
 obtain ⟨y110,hy110⟩:∃ y_:List Int,y_=(List.replicate ((l0.length:Int):Int).toNat 0):=⟨_,rfl⟩
 replace H:(laws_toIntS.l0 k l0 y110 0)=some r:=by first|(rw [hy110];with_reducible exact H)|(have H2_:=(Option.bind_some _ _).symm.trans H;rw [hy110];with_reducible exact H2_)|(have H2_:=(Option.bind_some _ _).symm.trans H;with_reducible exact H2_)|with_reducible exact H|(rw [hy110];exact H)|exact H
 have Ny110:=Am hy110
 clear hy110
 have H':=Am H
 clear H
 go_enter Try.func58,Try.ntmps58
 go_wp2_with (first|((with_reducible refine gD (N:=7) rfl ?_);refine Kd.R_make (Kd.int .i64) _ 3 rfl (N:=7) rfl 23 _ _ rfl (l0.length:Int) rfl rfl Try.underlying23 (.int .i64 0) 8 info3 rfl (by decide) (by omega) 0 (ok:=fun _=>True) (okp:=fun _=>True) rfl (fun _ hk=>hk) trivial (oE (by first|(with_reducible assumption)|assumption)) (Nat.le_trans (Nat.mul_le_mul_right _ (oE (by first|(with_reducible assumption)|assumption):(l0.length:Int).toNat≤35184372088832)) (by omega)) (bJ _ _) (nR _) ?_;intro v111 w4 ho5 hb hg_ hnew_;clear hg_ hnew_;(first|rw [← Ny110.out] at ho5|(simp only [Int.reduceToNat] at ho5;rw [← Ny110.out] at ho5));have n0_:=Am (rW ho5 (bZ (by repeat (first|(with_reducible first|exact HB.out|apply oA|apply pN|apply o1)|exact HB.out))));have n1_:=Am (bP (by repeat (first|(with_reducible first|exact HB.out|apply oA|apply pN|apply o1)|exact HB.out)) hb);clear HB;revert n0_ n1_;intro Bb HB;clear hb ho5))
 go_loopg [4] k (fun kq v4 w'=>∃ (x3_1:List Int) (x4_1:Int),v4=.int .i64 x4_1∧Aside0 (laws_toIntS.l0 kq l0 x3_1 x4_1=some r)∧Aside0 (kq≤k)∧Aside0 (Kd.R (Kd.int .i64) 3 w' w.heap.size (fun _=>True) v111 x3_1)∧Aside0 (Below w.heap.size w w'))
 case atStart=>exact ⟨(y110),(0),(by first|rfl|(simp;done)|(simp [*];done)),H',⟨nR _⟩,⟨by (with_reducible repeat (first|apply rA|apply rN|apply rD));exact Bb.out⟩,⟨by repeat (first|(with_reducible first|exact HB.out|apply oA|apply pN|apply o1)|exact HB.out)⟩⟩
 case round =>
  clear H'
  try clear c2
  try clear c2b0
  try clear c2b1
  try clear p2
  try clear c3
  try clear c3b0
  try clear c3b1
  try clear c5
  obtain ⟨x3_1,x4_1,rfl,HA,HK1,Ba,HB⟩:=hrel
  cases gk with
 |zero=>exact absurd HA.out (by simp [laws_toIntS.l0])
 |succ k1 =>
   have H:=HA.out
   clear HA
   simp only [laws_toIntS.l0] at H
   by_cases c6:x4_1<(l0.length:Int)
   rotate_left
   ·rw [if_neg c6] at H
    have c6b0:decide (x4_1<(l0.length:Int))=false:=dF c6
    clear c6
    obtain rfl:=oJ H
    go_wp2
    go_ret
    exact ⟨_,by first|rfl|(simp [errW_none,errW_some] <;> rfl)|(simp [*,errW_none,errW_some] <;> rfl),by (with_reducible repeat (first|apply rA|apply rN|apply rD));exact Ba.out,by repeat (first|(with_reducible first|exact HB.out|apply oA|apply pN|apply o1)|exact HB.out)⟩
   rw [if_pos c6] at H
   have c6b0:decide (x4_1<(l0.length:Int))=true:=dT c6
   clear c6
   by_cases c7:0≤x4_1
   rotate_left
   ·rw [if_neg c7] at H
    exact absurd H (by simp)
   rw [if_pos c7] at H
   have c7b0:decide (0≤x4_1)=true:=dT c7
   clear c7
   by_cases c8:x4_1<(x3_1.length:Int)
   rotate_left
   ·rw [if_neg c8] at H
    exact absurd H (by simp)
   rw [if_pos c8] at H
   have c8b0:decide (x4_1<(x3_1.length:Int))=true:=dT c8
   clear c8
   obtain ⟨y114,hy114⟩:∃ y_:List Int,y_=(x3_1.set (x4_1:Int).toNat (rd l0 x4_1)):=⟨_,rfl⟩
   replace H:(laws_toIntS.l0 k1 l0 y114 (wrap64 (x4_1 + 1)))=some r:=by first|(rw [hy114];with_reducible exact H)|(have H2_:=(Option.bind_some _ _).symm.trans H;rw [hy114];with_reducible exact H2_)|(have H2_:=(Option.bind_some _ _).symm.trans H;with_reducible exact H2_)|with_reducible exact H|(rw [hy114];exact H)|exact H
   have Ny114:=Am hy114
   clear hy114
   have H':=Am H
   clear H
   have p113:0≤(x4_1:Int):=oE (by first|(with_reducible assumption)|assumption)
   have q113:x4_1<(l0.length:Int):=oE (by first|(with_reducible assumption)|assumption)
   obtain ⟨ad113,e113,hx113_0⟩:=Kd.at_int HR0.out x4_1 p113 q113
   cases e113
   replace hx113_0:=(bW HB hx113_0:)
   replace p113:=eq_true p113
   replace q113:=eq_true q113
   have p9:0≤(x4_1:Int):=oE (by first|(with_reducible assumption)|assumption)
   have q9:(x4_1:Int)<((x3_1.length:Int):Int):=oE (by first|(with_reducible assumption)|assumption)
   obtain ⟨go9,co9,eo9,Bc,gl9,cl9,HG9⟩:=Kd.R_form Ba.out (by omega)
   (first|cases eo9|(injection eo9 with ea_ en_ ec_;(first|subst ea_|(injection ea_ with ea_;subst ea_));subst ec_;clear en_))
   have GB9:=Am Bc
   have GG9:=Am HG9
   clear Bc gl9 HG9
   obtain ⟨hx9_0,hf9_0⟩:=Kd.R_celln 0 Ba.out (x4_1:Int) p9 q9
   replace p9:=eq_true p9
   replace q9:=eq_true q9
   have HP10:=Kd.R_putg Ba.out (x4_1:Int) (rd l0 x4_1)
   go_wp2_with (first|((with_reducible refine gS (t:=3) (p:=20) rfl ?_);refine sE (t:=3) (p:=20) (v:=?vo_w11) (w1:=(wr.setCell ⟨go9,(x4_1:Int).toNat,none⟩ (.int .i64 (rd l0 x4_1)))) ?hg ?ho ?hn ?hr ?_;(case ho=>rfl);(case hg=>rfl);(case hn=>rfl);(case hr=>first|(go_simp;done)|(go_simp;rfl));intro w11 hw;have hg:wr.grownBy w11 (some go9):=(by rw [hw];exact HP10.2);have hp_:Kd.R (Kd.int .i64) 3 w11 w.heap.size (fun _=>True) (.slice (some ⟨go9,0,none⟩) x3_1.length co9) y114:=(by rw [hw,Ny114.out];exact HP10.1);clear HP10;have n0_:=Am (hp_);have n1_:=Am ((by rw [hw];exact bS (HB.out) GB9.out:Below w.heap.size w w11));clear Ba HB;revert n0_ n1_;intro Ba HB;clear hg hw hp_))
   go_roundg k1
   case measure=>have:=HK1.out;omega
   case rel=>exact ⟨(y114),(wrap64 (x4_1 + 1)),(by first|rfl|(simp;done)|(simp [*];done)),H',⟨by have:=HK1.out;omega⟩,⟨by (with_reducible repeat (first|apply rA|apply rN|apply rD));exact Ba.out⟩,⟨by repeat (first|(with_reducible first|exact HB.out|apply oA|apply pN|apply o1)|exact HB.out)⟩⟩/-! ### laws_toSigs: function 15 -/
def laws_toSigs.f (k : Nat) (l0_0 : List Bool) (l0_1 : List Bool) (l0_2 : List Int) : Option (List Bool × List Bool × List Int) := (laws_toBoolS.f k l0_0).bind fun t118 => ((laws_toBoolS.f k l0_1).bind fun t121 => ((laws_toIntS.f k l0_2).bind fun t124 => (some (t118, t121, t124))))
theorem laws_toSigs.mono : ∀ a0 a1 a2 k, LeO (laws_toSigs.f k a0 a1 a2) (laws_toSigs.f (k + 1) a0 a1 a2) := by
 intro a0 a1 a2 k
 unfold laws_toSigs.f
 repeat' first
  |(with_reducible exact laws_toBoolS.mono _ _)
  |(with_reducible exact laws_toIntS.mono _ _)
  |(with_reducible exact LeO.refl _)
  |(with_reducible exact LeO.none _)
  |(with_reducible refine LeO.ite ?_ ?_)
  |(with_reducible refine LeO.bind ?_ (fun _ => ?_))
  |exact laws_toBoolS.mono _ _
  |exact laws_toIntS.mono _ _
  |exact LeO.none _
  |refine LeO.ite ?_ ?_
  |refine LeO.bind ?_ (fun _ => ?_)
set_option maxHeartbeats 2000000 in
set_option maxRecDepth 100000 in
theorem laws_toSigs.calls (k:Nat) (A0_0:Option Addr) (c0_0:Nat) (l0_0:List Bool) (A0_1:Option Addr) (c0_1:Nat) (l0_1:List Bool) (A0_2:Option Addr) (c0_2:Nat) (l0_2:List Int) (r1:List Bool) (r2:List Bool) (r3:List Int) (w:World) (hr0_0:Kd.C Kd.bool w A0_0 l0_0.length l0_0) (hc0_0:l0_0.length≤c0_0) (hr0_1:Kd.C Kd.bool w A0_1 l0_1.length l0_1) (hc0_1:l0_1.length≤c0_1) (hr0_2:Kd.C (Kd.int .i64) w A0_2 l0_2.length l0_2) (hc0_2:l0_2.length≤c0_2) (h:laws_toSigs.f k l0_0 l0_1 l0_2=some (r1,r2,r3)) :
  Calls Try.prog 15 #[.agg #[.slice A0_0 l0_0.length c0_0,.slice A0_1 l0_1.length c0_1,.slice A0_2 l0_2.length c0_2]] w fun e w'=>∃ v0_ v1_ v2_:Value,e=.returned (.agg #[v0_,v1_,v2_])∧Kd.R Kd.bool 4 w' w.heap.size (fun k_=>some k_≠(v1_:Value).ownBlock) v0_ r1∧Kd.R Kd.bool 4 w' w.heap.size (fun k_=>some k_≠(v0_:Value).ownBlock) v1_ r2∧Kd.R (Kd.int .i64) 3 w' w.heap.size (fun _=>True) v2_ r3∧Below w.heap.size w w':=by
 have hu25:=Try.underlying25
 have hu27:=Try.underlying27
 have HR0_0:=Am hr0_0
 have HC0_0:=Am hc0_0
 clear hr0_0 hc0_0
 have HR0_1:=Am hr0_1
 have HC0_1:=Am hc0_1
 clear hr0_1 hc0_1
 have HR0_2:=Am hr0_2
 have HC0_2:=Am hc0_2
 clear hr0_2 hc0_2
 have HB:=Am (bJ w.heap.size w)
 have H:((laws_toBoolS.f k l0_0).bind fun t118=>((laws_toBoolS.f k l0_1).bind fun t121=>((laws_toIntS.f k l0_2).bind fun t124=>(some (t118,t121,t124)))))=some (r1,r2,r3):=h
 clear h
 replace H:=oC H
 obtain ⟨t118,A20,H⟩:=H
 replace H:((laws_toBoolS.f k l0_1).bind fun t121=>((laws_toIntS.f k l0_2).bind fun t124=>(some (t118,t121,t124))))=some (r1,r2,r3):=H
 have A2:=Am A20
 clear A20
 replace H:=oC H
 obtain ⟨t121,A30,H⟩:=H
 replace H:((laws_toIntS.f k l0_2).bind fun t124=>(some (t118,t121,t124)))=some (r1,r2,r3):=H
 have A3:=Am A30
 clear A30
 replace H:=oC H
 obtain ⟨t124,A40,H⟩:=H
 replace H:(some (t118,t121,t124))=some (r1,r2,r3):=H
 have A4:=Am A40
 clear A40
 simp only [Option.some.injEq,Prod.mk.injEq] at H
 obtain ⟨rfl,rfl,rfl⟩:=H
 go_enter Try.func15,Try.ntmps15
 go_wp2_with (first|((with_reducible refine gD (N:=1) rfl ?_);refine bI ?hg (N:=1) ?hd (cs:=#[.slice A0_0 l0_0.length c0_0,.slice A0_1 l0_1.length c0_1,.slice A0_2 l0_2.length c0_2]) (t:=25) ?hr ?_;(case hd=>rfl);(case hg=>rfl);(case hr=>first|(go_simp;done)|(go_simp;rfl));intro Be hg w5 hbox hb;have n0_:=Am (bP (by repeat (first|(with_reducible first|exact HB.out|apply oA|apply pN|apply o1)|exact HB.out)) hb);have n1_:=Am (hbox);have n2_:=Am ((by rw [hg];exact (bZ (by repeat (first|(with_reducible first|exact HB.out|apply oA|apply pN|apply o1)|exact HB.out))):w.heap.size≤Be));have n3_:=Am ((by rw [hg];exact (bZ (by repeat (first|(with_reducible first|exact HB.out|apply oA|apply pN|apply o1)|exact HB.out))):w.heap.size≤Be));clear HB;revert n0_ n1_ n2_ n3_;intro HB Ba B8 Bg;clear hb hbox hg)|((with_reducible refine gD (N:=2) rfl ?_);refine bI ?hg (N:=2) ?hd (cs:=#[.slice none 0 0,.slice none 0 0,.slice none 0 0]) (t:=27) ?hr ?_;(case hd=>rfl);(case hg=>rfl);(case hr=>first|(go_simp;done)|(go_simp;rfl));intro Bc hg w6 hbox hb;have n0_:=Am (bX Ba.out hb);have n1_:=Am (bP (by repeat (first|(with_reducible first|exact HB.out|apply oA|apply pN|apply o1|refine bS ?_ Bg.out)|exact HB.out)) hb);have n2_:=Am (hbox);have n3_:=Am ((by rw [hg];exact (bZ (by repeat (first|(with_reducible first|exact HB.out|apply oA|apply pN|apply o1|refine bS ?_ Bg.out)|exact HB.out))):w.heap.size≤Bc));have n4_:=Am ((by rw [hg];exact (bZ (by repeat (first|(with_reducible first|exact HB.out|apply oA|apply pN|apply o1|refine bS ?_ Bg.out)|exact HB.out))):w.heap.size≤Bc));have n5_:=Am ((nL Ba.out hg));have n6_:=Am ((nG Ba.out hg));clear Ba HB;revert n0_ n1_ n2_ n3_ n4_ n5_ n6_;intro Ba HB Bf B9 Bh Bn Bo;clear hb hbox hg)|((with_reducible refine gD (N:=3) rfl ?_);refine bI ?hg (N:=3) ?hd (cs:=#[.slice none 0 0,.slice none 0 0,.slice none 0 0]) (t:=27) ?hr ?_;(case hd=>rfl);(case hg=>rfl);(case hr=>first|(go_simp;done)|(go_simp;rfl));intro Bd hg w7 hbox hb;have n0_:=Am (bX Ba.out hb);have n1_:=Am (bX Bf.out hb);have n2_:=Am (bP (by repeat (first|(with_reducible first|exact HB.out|apply oA|apply pN|apply o1|refine bS ?_ Bg.out|refine bS ?_ Bh.out)|exact HB.out)) hb);have n3_:=Am (hbox);have n4_:=Am ((by rw [hg];exact (bZ (by repeat (first|(with_reducible first|exact HB.out|apply oA|apply pN|apply o1|refine bS ?_ Bg.out|refine bS ?_ Bh.out)|exact HB.out))):w.heap.size≤Bd));have n5_:=Am ((by rw [hg];exact (bZ (by repeat (first|(with_reducible first|exact HB.out|apply oA|apply pN|apply o1|refine bS ?_ Bg.out|refine bS ?_ Bh.out)|exact HB.out))):w.heap.size≤Bd));have n6_:=Am ((nL Ba.out hg));have n7_:=Am ((nG Ba.out hg));have n8_:=Am ((nL Bf.out hg));have n9_:=Am ((nG Bf.out hg));clear Ba Bf HB;revert n0_ n1_ n2_ n3_ n4_ n5_ n6_ n7_ n8_ n9_;intro Ba Bf HB Bb Da Bi Bl Bp Bk Bq;clear hb hbox hg;have Dd:=Bn.out;have De:=Bo.out;have Df:=Bl.out;have Dg:=Bp.out;have Bs:=cz0 Ba.out;have Bt:=cz1 Ba.out;have Bu:=cz2 Ba.out;have Bv:=bF Ba.out 0;have Bw:=bF Ba.out 1;have Bx:=bF Ba.out 2)|((with_reducible refine gC (f:=21) rfl ?_);refine goesL_ (some 6) rfl rfl Try.func21 (by kernel_rfl) rfl #[.slice A0_0 l0_0.length c0_0] rfl (by (try simp only [lM,lC,lN]);first|done|rfl|(simp only [lD,lT];rfl)) ?_;(with_reducible refine (laws_toBoolS.calls k _ _ l0_0 t118 _ ?side1 ?side2 A2.out).mono ?_);(case side1=>exact cL (cB HR0_0.out HB.out));(case side2=>exact HC0_0.out);rintro e w11 ⟨v119,rfl,ho0,hb⟩;refine ⟨_,rfl,?_⟩;have n0_:=Am (rW ho0 (bZ (by repeat (first|(with_reducible first|exact HB.out|apply oA|apply pN|apply o1|refine bS ?_ Bg.out|refine bS ?_ Bh.out|refine bS ?_ Bi.out)|exact HB.out))));have n1_:=Am (bX Ba.out hb);have n2_:=Am (bX Bf.out hb);have n3_:=Am (bX Bb.out hb);have n4_:=Am (bP (by repeat (first|(with_reducible first|exact HB.out|apply oA|apply pN|apply o1|refine bS ?_ Bg.out|refine bS ?_ Bh.out|refine bS ?_ Bi.out)|exact HB.out)) hb);clear Ba Bf Bb HB;revert n0_ n1_ n2_ n3_ n4_;intro Bj Ba Bf Bb HB;(try clear hb);(try clear hb2);(try clear hk);(try clear hi);(try clear ho0);obtain ⟨Ao12,co12,eo12⟩:=rC Bj.out;subst eo12;have Db:=Bq.out;have Dc:=Bk.out;have By:=cz0 Bb.out;have Bz:=cz1 Bb.out;have BA:=cz2 Bb.out;have BB:=bF Bb.out 0;have BC:=bF Bb.out 1;have BD:=bF Bb.out 2;have BE:=cz0 Ba.out;have BF:=cz1 Ba.out;have BG:=cz2 Ba.out;have BH:=bF Ba.out 0;have BI:=bF Ba.out 1;have BJ:=bF Ba.out 2)|((with_reducible refine gC (f:=21) rfl ?_);refine goesL_ (some 10) rfl rfl Try.func21 (by kernel_rfl) rfl #[.slice A0_1 l0_1.length c0_1] rfl (by (try simp only [lM,lC,lN]);first|done|rfl|(simp only [lD,lT];rfl)) ?_;(with_reducible refine (laws_toBoolS.calls k _ _ l0_1 t121 _ ?side1 ?side2 A3.out).mono ?_);(case side1=>exact cB HR0_1.out (by repeat (first|(with_reducible first|exact HB.out|apply oA|apply pN|apply o1|refine bS ?_ Bg.out|refine bS ?_ Bh.out|refine bS ?_ Bi.out)|exact HB.out)));(case side2=>exact HC0_1.out);rintro e w16 ⟨v122,rfl,ho0,hb⟩;refine ⟨_,rfl,?_⟩;have n0_:=Am (rX (by (with_reducible repeat (first|apply rA|apply rN|apply rD));exact (rM (rF (p:=⟨Bd,0,none⟩) (rT Bj.out Bb.out (by decide)) (fun _ hk=>hk.2) (.slice Ao12 t118.length co12)) (fun _ h_=>h_.1))) (rZ ho0) hb);have n1_:=Am (rW (rQ ho0 (rI (by (with_reducible repeat (first|apply rA|apply rN|apply rD));exact (rM (rF (p:=⟨Bd,0,none⟩) (rT Bj.out Bb.out (by decide)) (fun _ hk=>hk.2) (.slice Ao12 t118.length co12)) (fun _ h_=>h_.1))))) (bZ (by repeat (first|(with_reducible first|exact HB.out|apply oA|apply pN|apply o1|refine bS ?_ Bg.out|refine bS ?_ Bh.out|refine bS ?_ Bi.out)|exact HB.out))));have n2_:=Am (bB (g:=Be) (o:=.cells #[.slice A0_0 l0_0.length c0_0,.slice A0_1 l0_1.length c0_1,.slice A0_2 l0_2.length c0_2] 25 (0,0)) (by (with_reducible repeat (first|refine bN ?_ _|refine bD ?_|refine bA ?_ _|refine bE ?_ Bl.out _));exact Ba.out) hb);have n3_:=Am (bB (g:=Bc) (o:=.cells #[.slice none 0 0,.slice none 0 0,.slice none 0 0] 27 (0,0)) (by (with_reducible repeat (first|refine bN ?_ _|refine bD ?_|refine bA ?_ _|refine bE ?_ Bk.out _));exact Bf.out) hb);have n4_:=Am (bB (g:=Bd) (o:=.cells #[.slice Ao12 t118.length co12,.slice none 0 0,.slice none 0 0] 27 (0,0)) (by (with_reducible repeat (first|refine bN ?_ _|refine bD ?_|refine bA ?_ _));refine bT (cs:=#[.slice none 0 0,.slice none 0 0,.slice none 0 0]) ?_ 0 _ rfl;(with_reducible repeat (first|refine bN ?_ _|refine bD ?_|refine bA ?_ _));exact Bb.out) hb);have n5_:=Am (bP (by repeat (first|(with_reducible first|exact HB.out|apply oA|apply pN|apply o1|refine bS ?_ Bg.out|refine bS ?_ Bh.out|refine bS ?_ Bi.out)|exact HB.out)) hb);clear Bj Ba Bf Bb HB;revert n0_ n1_ n2_ n3_ n4_ n5_;intro Bj Bm Ba Bf Bb HB;(try clear hb);(try clear hb2);(try clear hk);(try clear hi);(try clear ho0);obtain ⟨Ao17,co17,eo17⟩:=rC Bm.out;subst eo17;have BK:=cz0 Bb.out;have BL:=cz1 Bb.out;have BM:=cz2 Bb.out;have BN:=bF Bb.out 0;have BO:=bF Bb.out 1;have BP:=bF Bb.out 2;have BQ:=cz0 Ba.out;have BR:=cz1 Ba.out;have BS:=cz2 Ba.out;have BT:=bF Ba.out 0;have BU:=bF Ba.out 1;have BV:=bF Ba.out 2)|((with_reducible refine gC (f:=58) rfl ?_);refine goesL_ (some 14) rfl rfl Try.func58 (by kernel_rfl) rfl #[.slice A0_2 l0_2.length c0_2] rfl (by (try simp only [lM,lC,lN]);first|done|rfl|(simp only [lD,lT];rfl)) ?_;(with_reducible refine (laws_toIntS.calls k _ _ l0_2 t124 _ ?side1 ?side2 A4.out).mono ?_);(case side1=>exact cB HR0_2.out (by repeat (first|(with_reducible first|exact HB.out|apply oA|apply pN|apply o1|refine bS ?_ Bg.out|refine bS ?_ Bh.out|refine bS ?_ Bi.out)|exact HB.out)));(case side2=>exact HC0_2.out);rintro e w20 ⟨v125,rfl,ho0,hb⟩;refine ⟨_,rfl,?_⟩;have n0_:=Am (rB (by (with_reducible repeat (first|apply rA|apply rN|apply rD));exact (rM (rF (p:=⟨Bd,1,none⟩) (rT Bj.out Bb.out (by decide)) (fun _ hk=>hk.2) (.slice Ao17 t121.length co17)) (fun _ h_=>h_.1))) hb);have n1_:=Am (rB (by (with_reducible repeat (first|apply rA|apply rN|apply rD));exact (rM (rF (p:=⟨Bd,1,none⟩) (rT Bm.out Bb.out (by decide)) (fun _ hk=>hk.2) (.slice Ao17 t121.length co17)) (fun _ h_=>h_.1))) hb);have n2_:=Am (rW ho0 (bZ (by repeat (first|(with_reducible first|exact HB.out|apply oA|apply pN|apply o1|refine bS ?_ Bg.out|refine bS ?_ Bh.out|refine bS ?_ Bi.out)|exact HB.out))));have n3_:=Am (bB (g:=Be) (o:=.cells #[.slice A0_0 l0_0.length c0_0,.slice A0_1 l0_1.length c0_1,.slice A0_2 l0_2.length c0_2] 25 (0,0)) (by (with_reducible repeat (first|refine bN ?_ _|refine bD ?_|refine bA ?_ _|refine bE ?_ Bl.out _));exact Ba.out) hb);have n4_:=Am (bB (g:=Bc) (o:=.cells #[.slice none 0 0,.slice none 0 0,.slice none 0 0] 27 (0,0)) (by (with_reducible repeat (first|refine bN ?_ _|refine bD ?_|refine bA ?_ _|refine bE ?_ Bk.out _));exact Bf.out) hb);have n5_:=Am (bB (g:=Bd) (o:=.cells #[.slice Ao12 t118.length co12,.slice Ao17 t121.length co17,.slice none 0 0] 27 (0,0)) (by (with_reducible repeat (first|refine bN ?_ _|refine bD ?_|refine bA ?_ _));refine bT (cs:=#[.slice Ao12 t118.length co12,.slice none 0 0,.slice none 0 0]) ?_ 1 _ rfl;(with_reducible repeat (first|refine bN ?_ _|refine bD ?_|refine bA ?_ _));exact Bb.out) hb);have n6_:=Am (bP (by repeat (first|(with_reducible first|exact HB.out|apply oA|apply pN|apply o1|refine bS ?_ Bg.out|refine bS ?_ Bh.out|refine bS ?_ Bi.out)|exact HB.out)) hb);clear Bj Bm Ba Bf Bb HB;revert n0_ n1_ n2_ n3_ n4_ n5_ n6_;intro Bj Bm Br Ba Bf Bb HB;(try clear hb);(try clear hb2);(try clear hk);(try clear hi);(try clear ho0);obtain ⟨Ao21,co21,eo21⟩:=rC Br.out;subst eo21;have BW:=cz0 Bb.out;have BX:=cz1 Bb.out;have BY:=cz2 Bb.out;have BZ:=bF Bb.out 0;have B0:=bF Bb.out 1;have B1:=bF Bb.out 2;have B2:=cz0 Bf.out;have B3:=cz1 Bf.out;have B4:=cz2 Bf.out;have B5:=bF Bf.out 0;have B6:=bF Bf.out 1;have B7:=bF Bf.out 2))
 refine bodyPost_ret (results_cell_row rfl _ _ Bc 27 #[.slice Ao12 t118.length co12,.slice Ao17 t121.length co17,.slice Ao21 t124.length co21] (0,0) _ rfl (by (with_reducible repeat (first|refine bN ?_ _|refine bD ?_|refine bA ?_ _));refine bT (cs:=#[.slice Ao12 t118.length co12,.slice Ao17 t121.length co17,.slice none 0 0]) ?_ 2 _ rfl;(with_reducible repeat (first|refine bN ?_ _|refine bD ?_|refine bA ?_ _));refine bT (cs:=#[.slice Ao12 t118.length co12,.slice none 0 0,.slice none 0 0]) ?_ 1 _ rfl;(with_reducible repeat (first|refine bN ?_ _|refine bD ?_|refine bA ?_ _));refine bT (cs:=#[.slice none 0 0,.slice none 0 0,.slice none 0 0]) ?_ 0 _ rfl;(with_reducible repeat (first|refine bN ?_ _|refine bD ?_|refine bA ?_ _|refine bE ?_ Bk.out _));exact Bf.out) Try.underlying27 rfl (by kernel_rfl)) rfl ?_
 exact ⟨_,_,_,by first|rfl|(simp [errW_none,errW_some] <;> rfl)|(simp [*,errW_none,errW_some] <;> rfl),by (with_reducible repeat (first|apply rA|apply rN|apply rD));exact rM (rF (p:=⟨Bc,2,none⟩) (rF (p:=⟨Bc,1,none⟩) (rF (p:=⟨Bc,0,none⟩) (rF (p:=⟨Bd,2,none⟩) (rT (rT Bj.out Bb.out (by decide)) Bf.out (by decide)) (fun _ hk=>hk.1.2) (.slice Ao21 t124.length co21)) (fun _ hk=>hk.2) (.slice Ao12 t118.length co12)) (fun _ hk=>hk.2) (.slice Ao17 t121.length co17)) (fun _ hk=>hk.2) (.slice Ao21 t124.length co21)) (fun _ hk=>hk.1.1.2),by (with_reducible repeat (first|apply rA|apply rN|apply rD));exact rM (rF (p:=⟨Bc,2,none⟩) (rF (p:=⟨Bc,1,none⟩) (rF (p:=⟨Bc,0,none⟩) (rF (p:=⟨Bd,2,none⟩) (rT (rT Bm.out Bb.out (by decide)) Bf.out (by decide)) (fun _ hk=>hk.1.2) (.slice Ao21 t124.length co21)) (fun _ hk=>hk.2) (.slice Ao12 t118.length co12)) (fun _ hk=>hk.2) (.slice Ao17 t121.length co17)) (fun _ hk=>hk.2) (.slice Ao21 t124.length co21)) (fun _ hk=>hk.1.1.2),by (with_reducible repeat (first|apply rA|apply rN|apply rD));exact rM (rF (p:=⟨Bc,2,none⟩) (rF (p:=⟨Bc,1,none⟩) (rF (p:=⟨Bc,0,none⟩) (rF (p:=⟨Bd,2,none⟩) (rT (rT Br.out Bb.out (by decide)) Bf.out (by decide)) (fun _ hk=>hk.1.2) (.slice Ao21 t124.length co21)) (fun _ hk=>hk.2) (.slice Ao12 t118.length co12)) (fun _ hk=>hk.2) (.slice Ao17 t121.length co17)) (fun _ hk=>hk.2) (.slice Ao21 t124.length co21)) (fun _ hk=>trivial),by repeat (first|(with_reducible first|exact HB.out|apply oA|apply pN|apply o1|refine bS ?_ Bg.out|refine bS ?_ Bh.out|refine bS ?_ Bi.out)|exact HB.out)⟩

/-! ### laws_eqBoolS: function 23 -/
def laws_eqBoolS.l0 : Nat → List Bool → List Bool → Int → Option (Bool)
|0, _, _, _ => none
|k + 1, x0, x1, x5 => if x5 < (x0.length : Int) then (if 0 ≤ x5 then (if x5 < (x1.length : Int) then (if ((rdOf false x0 x5) != (rdOf false x1 x5)) = true then (some false) else (laws_eqBoolS.l0 k x0 x1 (wrap64 (x5 + 1)))) else (none)) else (none)) else (some true)
def laws_eqBoolS.f (k : Nat) (l0 : List Bool) (l1 : List Bool) : Option (Bool) := if (l0.length : Int) = (l1.length : Int) then (laws_eqBoolS.l0 k l0 l1 0) else (some false)
theorem laws_eqBoolS.mono_l : ∀ k, (∀ y0 y1 y2, LeO (laws_eqBoolS.l0 k y0 y1 y2) (laws_eqBoolS.l0 (k + 1) y0 y1 y2))
|0 => fun _ _ _ r h => by simp [laws_eqBoolS.l0] at h
|k + 1 => by
  have ih0 := laws_eqBoolS.mono_l k
  ·intro y0 y1 y2
   unfold laws_eqBoolS.l0
   repeat' first
  |(with_reducible exact ih0 _ _ _)
  |(with_reducible exact LeO.refl _)
  |(with_reducible exact LeO.none _)
  |(with_reducible refine LeO.ite ?_ ?_)
  |(with_reducible refine LeO.bind ?_ (fun _ => ?_))
  |exact ih0 _ _ _
  |exact LeO.none _
  |refine LeO.ite ?_ ?_
  |refine LeO.bind ?_ (fun _ => ?_)
theorem laws_eqBoolS.mono : ∀ a0 a1 k, LeO (laws_eqBoolS.f k a0 a1) (laws_eqBoolS.f (k + 1) a0 a1) := by
 intro a0 a1 k
 have ih0 := laws_eqBoolS.mono_l k
 unfold laws_eqBoolS.f
 repeat' first
  |(with_reducible exact ih0 _ _ _)
  |(with_reducible exact LeO.refl _)
  |(with_reducible exact LeO.none _)
  |(with_reducible refine LeO.ite ?_ ?_)
  |(with_reducible refine LeO.bind ?_ (fun _ => ?_))
  |exact ih0 _ _ _
  |exact LeO.none _
  |refine LeO.ite ?_ ?_
  |refine LeO.bind ?_ (fun _ => ?_)
set_option maxHeartbeats 2000000 in
set_option maxRecDepth 100000 in
theorem laws_eqBoolS.calls (k:Nat) (A0:Option Addr) (c0:Nat) (l0:List Bool) (A1:Option Addr) (c1:Nat) (l1:List Bool) (r:Bool) (w:World) (hr0:Kd.C Kd.bool w A0 l0.length l0) (hc0:l0.length≤c0) (hr1:Kd.C Kd.bool w A1 l1.length l1) (hc1:l1.length≤c1) (h:laws_eqBoolS.f k l0 l1=some r) :
  Calls Try.prog 23 #[.slice A0 l0.length c0,.slice A1 l1.length c1] w fun e w'=>e=.returned (.bool r)∧Drawn0 w w':=by
 have HR0:=Am hr0
 have HC0:=Am hc0
 clear hr0 hc0
 have HR1:=Am hr1
 have HC1:=Am hc1
 clear hr1 hc1
 have H:(if (l0.length:Int)=(l1.length:Int) then (laws_eqBoolS.l0 k l0 l1 0) else (some false))=some r:=h
 clear h
 by_cases c3:(l0.length:Int)=(l1.length:Int)
 rotate_left
 ·rw [if_neg c3] at H
  have c3b0:((l0.length:Int) == (l1.length:Int))=false:=beq_eq_false_iff_ne.mpr c3
  have c3b1:((l0.length:Int) != (l1.length:Int))=true:=bne_iff_ne.mpr c3
  have c3b2:(l0.length == l1.length)=false:=by first|simpa using c3|(simp at c3 ⊢;omega)
  obtain rfl:=oJ H
  go_enter Try.func23,Try.ntmps23
  go_wp2
  repeat (go_quiet (fail);try go_wp2)
  go_ret
  exact ⟨by first|rfl|(simp;done)|(simp [*];done),by repeat (first|exact Drawn0.refl _|apply Drawn0.step)⟩

 rw [if_pos c3] at H
 have c3b0:((l0.length:Int) == (l1.length:Int))=true:=beq_iff_eq.mpr c3
 have c3b1:((l0.length:Int) != (l1.length:Int))=false:=bne_eq_false_iff_eq.mpr c3
 have c3b2:(l0.length == l1.length)=true:=by first|simpa using c3|(simp at c3 ⊢;omega)
 clear c3
 have H':=Am H
 clear H
 go_enter Try.func23,Try.ntmps23
 go_wp2
 repeat (go_quiet (fail);try go_wp2)
 go_loopg [5] k (fun kq v5 w'=>∃ (x5_1:Int),v5=.int .i64 x5_1∧Aside0 (laws_eqBoolS.l0 kq l0 l1 x5_1=some r)∧Aside0 (kq≤k)∧Drawn0 w w')
 case atStart=>exact ⟨(0),(by first|rfl|(simp;done)|(simp [*];done)),H',⟨nR _⟩,by repeat (first|exact Drawn0.refl _|apply Drawn0.step)⟩
 case round =>
  clear H'
  try clear c1
  try clear c2
  try clear p2
  try clear c3
  try clear c3b0
  try clear c3b1
  try clear c3b2
  obtain ⟨x5_1,rfl,HA,HK1,⟨m1,rfl⟩⟩:=hrel
  cases gk with
 |zero=>exact absurd HA.out (by simp [laws_eqBoolS.l0])
 |succ k1 =>
   have H:=HA.out
   clear HA
   simp only [laws_eqBoolS.l0] at H
   by_cases c4:x5_1<(l0.length:Int)
   rotate_left
   ·rw [if_neg c4] at H
    have c4b0:decide (x5_1<(l0.length:Int))=false:=dF c4
    clear c4
    obtain rfl:=oJ H
    go_wp2
    repeat (go_quiet (fail);try go_wp2)
    go_ret
    exact ⟨by first|rfl|(simp;done)|(simp [*];done),by repeat (first|exact Drawn0.refl _|apply Drawn0.step)⟩
   rw [if_pos c4] at H
   have c4b0:decide (x5_1<(l0.length:Int))=true:=dT c4
   clear c4
   by_cases c5:0≤x5_1
   rotate_left
   ·rw [if_neg c5] at H
    exact absurd H (by simp)
   rw [if_pos c5] at H
   have c5b0:decide (0≤x5_1)=true:=dT c5
   clear c5
   by_cases c6:x5_1<(l1.length:Int)
   rotate_left
   ·rw [if_neg c6] at H
    exact absurd H (by simp)
   rw [if_pos c6] at H
   have c6b0:decide (x5_1<(l1.length:Int))=true:=dT c6
   clear c6
   by_cases c7:((rdOf false l0 x5_1) != (rdOf false l1 x5_1))=true
   ·rw [if_pos c7] at H
    have c7b0:((rdOf false l0 x5_1) != (rdOf false l1 x5_1))=true:=c7
    (try (have c7b1:decide ((rdOf false l0 x5_1)=(rdOf false l1 x5_1))=false:=by simpa using c7))
    (try (have c7b2:((rdOf false l0 x5_1) == (rdOf false l1 x5_1))=false:=by simpa using c7))
    (try (have c7b3:¬ ((rdOf false l0 x5_1)=(rdOf false l1 x5_1)):=by simpa using c7))
    clear c7
    obtain rfl:=oJ H
    have p127:0≤(x5_1:Int):=oE (by first|(with_reducible assumption)|assumption)
    have q127:x5_1<(l0.length:Int):=oE (by first|(with_reducible assumption)|assumption)
    obtain ⟨ad127,e127,hx127_0⟩:=Kd.at_bool HR0.out x5_1 p127 q127
    cases e127
    replace p127:=eq_true p127
    replace q127:=eq_true q127
    have p128:0≤(x5_1:Int):=oE (by first|(with_reducible assumption)|assumption)
    have q128:x5_1<(l1.length:Int):=oE (by first|(with_reducible assumption)|assumption)
    obtain ⟨ad128,e128,hx128_0⟩:=Kd.at_bool HR1.out x5_1 p128 q128
    cases e128
    replace p128:=eq_true p128
    replace q128:=eq_true q128
    go_wp2
    repeat (go_quiet (fail);try go_wp2)
    go_ret
    exact ⟨by first|rfl|(simp;done)|(simp [*];done),by repeat (first|exact Drawn0.refl _|apply Drawn0.step)⟩
   rw [if_neg c7] at H
   have c7b0:((rdOf false l0 x5_1) != (rdOf false l1 x5_1))=false:=by simpa using c7
   (try (have c7b1:decide ((rdOf false l0 x5_1)=(rdOf false l1 x5_1))=true:=by simpa using c7))
   (try (have c7b2:((rdOf false l0 x5_1) == (rdOf false l1 x5_1))=true:=by simpa using c7))
   clear c7
   have H':=Am H
   clear H
   have p127:0≤(x5_1:Int):=oE (by first|(with_reducible assumption)|assumption)
   have q127:x5_1<(l0.length:Int):=oE (by first|(with_reducible assumption)|assumption)
   obtain ⟨ad127,e127,hx127_0⟩:=Kd.at_bool HR0.out x5_1 p127 q127
   cases e127
   replace p127:=eq_true p127
   replace q127:=eq_true q127
   have p128:0≤(x5_1:Int):=oE (by first|(with_reducible assumption)|assumption)
   have q128:x5_1<(l1.length:Int):=oE (by first|(with_reducible assumption)|assumption)
   obtain ⟨ad128,e128,hx128_0⟩:=Kd.at_bool HR1.out x5_1 p128 q128
   cases e128
   replace p128:=eq_true p128
   replace q128:=eq_true q128
   go_wp2
   repeat (go_quiet (fail);try go_wp2)
   go_roundg k1
   case measure=>have:=HK1.out;omega
   case rel=>exact ⟨(wrap64 (x5_1 + 1)),(by first|rfl|(simp;done)|(simp [*];done)),H',⟨by have:=HK1.out;omega⟩,by repeat (first|exact Drawn0.refl _|apply Drawn0.step)⟩
end Go.Proofs.Ytehekikjadjdaaa.PFnExactSigsRun
