/- Proved here, without a condition beyond those that each theorem states: what the Go functions named below do is what the plain functions of the same names say. Written by xprint.py, a program of this session. -/
import Derived.Test.YtehekikjadjdaaaPFnExactSigsRunx0
import Derived.Test.YtehekikjadjdaaaPFnExactSigsRunx3
namespace Go.Proofs.Ytehekikjadjdaaa.PFnExactSigsRun
open Go.RowKit Go.Proofs.YtehekikjadjdaaaW.PrintWords Go.Proofs.YtehekikjadjdaaaW.PrintLast Go.Proofs.YtehekikjadjdaaaW.PrintMore
attribute [local go_sem] max2_int min2_int max_two min_two max_three min_three max_four min_four   -- for this text's walks alone
set_option linter.unusedVariables false
set_option linter.unusedSimpArgs false

attribute [local go_sem ↓] isSome_setCell_
/-! ### laws_markIntS: function 62 -/
def laws_markIntS.l0 : Nat → List Int → Int → Int → Option (Int × List Int)
|0, _, _, _ => none
|k + 1, x0, x1, x5 => if x5 < (x0.length : Int) then (if 0 ≤ x5 then (laws_markIntS.l0 k (x0.set (x5 : Int).toNat x1) (wrap64 (x1 + 1)) (wrap64 (x5 + 1))) else (none)) else (some (x1, x0))
def laws_markIntS.f (k : Nat) (l0 : List Int) (a1 : Int) : Option (Int × List Int) := laws_markIntS.l0 k l0 a1 0
theorem laws_markIntS.mono_l : ∀ k, (∀ y0 y1 y2, LeO (laws_markIntS.l0 k y0 y1 y2) (laws_markIntS.l0 (k + 1) y0 y1 y2))
|0 => fun _ _ _ r h => by simp [laws_markIntS.l0] at h
|k + 1 => by
  have ih0 := laws_markIntS.mono_l k
  ·intro y0 y1 y2
   unfold laws_markIntS.l0
   repeat' first
  |(with_reducible exact ih0 _ _ _)
  |(with_reducible exact LeO.refl _)
  |(with_reducible exact LeO.none _)
  |(with_reducible refine LeO.ite ?_ ?_)
  |(with_reducible refine LeO.bind ?_ (fun _ => ?_))
  |exact ih0 _ _ _
  |exact LeO.none _
  |refine LeO.ite ?_ ?_
  |refine LeO.bind ?_ (fun _ => ?_)
theorem laws_markIntS.mono : ∀ a0 a1 k, LeO (laws_markIntS.f k a0 a1) (laws_markIntS.f (k + 1) a0 a1) := by
 intro a0 a1 k
 have ih0 := laws_markIntS.mono_l k
 unfold laws_markIntS.f
 repeat' first
  |(with_reducible exact ih0 _ _ _)
  |(with_reducible exact LeO.refl _)
  |(with_reducible exact LeO.none _)
  |(with_reducible refine LeO.ite ?_ ?_)
  |(with_reducible refine LeO.bind ?_ (fun _ => ?_))
  |exact ih0 _ _ _
  |exact LeO.none _
  |refine LeO.ite ?_ ?_
  |refine LeO.bind ?_ (fun _ => ?_)
set_option maxHeartbeats 2000000 in
set_option maxRecDepth 100000 in
theorem laws_markIntS.calls (k:Nat) (P0_:Nat → Prop) (u9000_:Value) (l0:List Int) (a1:Int) (r1:Int) (r2:List Int) (w0 w:World) (hB:Below w0.heap.size w0 w) (ho0:Kd.R (Kd.int .i64) 3 w w0.heap.size P0_ u9000_ l0) (h:laws_markIntS.f k l0 a1=some (r1,r2)) :
  Calls Try.prog 62 #[u9000_,.int .i64 a1] w fun e w'=>e=.returned (.int .i64 r1)∧Kd.R (Kd.int .i64) 3 w' w0.heap.size (fun k_=>(P0_ k_∨w.heap.size≤k_)) u9000_ r2∧Below w0.heap.size w0 w'∧Kept w w' (fun k_=>P0_ k_):=by
 have Bc:=Am (show Kd.R (Kd.int .i64) 3 w w0.heap.size (fun k_=>(P0_ k_∨w.heap.size≤k_)) u9000_ l0 from rM ho0 (fun k_ hk=>(.inl hk)))
 have HK:=Am (Kept.refl w (fun k_=>P0_ k_))
 have HW0:=Am hB.size
 have HB:=Am hB
 clear hB
 have H:(laws_markIntS.l0 k l0 a1 0)=some (r1,r2):=h
 clear h
 have H':=Am H
 clear H
 go_enter Try.func62,Try.ntmps62
 go_wp2
 go_loopg [1,5] k (fun kq v1 v5 w'=>∃ (x0_1:List Int) (x1_1:Int) (x5_1:Int),v1=.int .i64 x1_1∧v5=.int .i64 x5_1∧Aside0 (laws_markIntS.l0 kq x0_1 x1_1 x5_1=some (r1,r2))∧Aside0 (kq≤k)∧Aside0 (Kd.R (Kd.int .i64) 3 w' w0.heap.size (fun k_=>(P0_ k_∨w.heap.size≤k_)) u9000_ x0_1)∧Aside0 (Kept w w' (fun k_=>P0_ k_))∧Aside0 (Below w0.heap.size w0 w'))
 case atStart=>exact ⟨(l0),(a1),(0),(by first|rfl|(simp;done)|(simp [*];done)),(by first|rfl|(simp;done)|(simp [*];done)),H',⟨nR _⟩,⟨by (with_reducible repeat (first|apply rA|apply rN|apply rD));exact Bc.out⟩,⟨by repeat (first|(with_reducible first|exact HK.out|apply Kept.alloc|apply Kept.drewN|apply Kept.drew)|exact HK.out)⟩,⟨by repeat (first|(with_reducible first|exact HB.out|apply oA|apply pN|apply o1)|exact HB.out)⟩⟩
 case round =>
  clear H'
  try clear p2
  obtain ⟨x0_1,x1_1,x5_1,rfl,rfl,HA,HK1,Ba,HK,HB⟩:=hrel
  cases gk with
 |zero=>exact absurd HA.out (by simp [laws_markIntS.l0])
 |succ k1 =>
   have H:=HA.out
   clear HA
   simp only [laws_markIntS.l0] at H
   by_cases c3:x5_1<(x0_1.length:Int)
   rotate_left
   ·rw [if_neg c3] at H
    have c3b0:decide (x5_1<(x0_1.length:Int))=false:=dF c3
    clear c3
    simp only [Option.some.injEq,Prod.mk.injEq] at H
    obtain ⟨rfl,rfl⟩:=H
    obtain ⟨Ao9,co9,eo9⟩:=rC Ba.out
    subst eo9
    go_wp2
    go_ret
    exact ⟨by first|rfl|(simp [errW_none,errW_some] <;> rfl)|(simp [*,errW_none,errW_some] <;> rfl),by (with_reducible repeat (first|apply rA|apply rN|apply rD));exact Ba.out,by repeat (first|(with_reducible first|exact HB.out|apply oA|apply pN|apply o1)|exact HB.out),by repeat (first|(with_reducible first|exact HK.out|apply Kept.alloc|apply Kept.drewN|apply Kept.drew)|exact HK.out)⟩


   rw [if_pos c3] at H
   have c3b0:decide (x5_1<(x0_1.length:Int))=true:=dT c3
   clear c3
   by_cases c4:0≤x5_1
   rotate_left
   ·rw [if_neg c4] at H
    exact absurd H (by simp)
   rw [if_pos c4] at H
   have c4b0:decide (0≤x5_1)=true:=dT c4
   clear c4
   obtain ⟨y137,hy137⟩:∃ y_:List Int,y_=(x0_1.set (x5_1:Int).toNat x1_1):=⟨_,rfl⟩
   replace H:(laws_markIntS.l0 k1 y137 (wrap64 (x1_1 + 1)) (wrap64 (x5_1 + 1)))=some (r1,r2):=by first|(rw [hy137];with_reducible exact H)|(have H2_:=(Option.bind_some _ _).symm.trans H;rw [hy137];with_reducible exact H2_)|(have H2_:=(Option.bind_some _ _).symm.trans H;with_reducible exact H2_)|with_reducible exact H|(rw [hy137];exact H)|exact H
   have Ny137:=Am hy137
   clear hy137
   have H':=Am H
   clear H
   obtain ⟨Ao6,co6,eo6⟩:=rC Ba.out
   subst eo6
   have p5:0≤(x5_1:Int):=oE (by first|(with_reducible assumption)|assumption)
   have q5:(x5_1:Int)<((x0_1.length:Int):Int):=oE (by first|(with_reducible assumption)|assumption)
   obtain ⟨go5,co5,eo5,Bb,gl5,cl5,HG5⟩:=Kd.R_form Ba.out (by omega)
   (first|cases eo5|(injection eo5 with ea_ en_ ec_;(first|subst ea_|(injection ea_ with ea_;subst ea_));subst ec_;clear en_))
   have GB5:=Am Bb
   have GG5:=Am HG5
   clear Bb gl5 HG5
   have HMgo5:=Am (show (P0_ go5∨w.heap.size≤go5) from (Ba.out.1 _ rfl))
   obtain ⟨hx5_0,hf5_0⟩:=Kd.R_celln 0 Ba.out (x5_1:Int) p5 q5
   replace p5:=eq_true p5
   replace q5:=eq_true q5
   have HP7:=Kd.R_putg Ba.out (x5_1:Int) x1_1
   go_wp2_with (first|((with_reducible refine gS (t:=3) (p:=15) rfl ?_);refine sE (t:=3) (p:=15) (v:=?vo_w8) (w1:=(wr.setCell ⟨go5,(x5_1:Int).toNat,none⟩ (.int .i64 x1_1))) ?hg ?ho ?hn ?hr ?_;(case ho=>rfl);(case hg=>rfl);(case hn=>rfl);(case hr=>first|(go_simp;done)|(go_simp;rfl));intro w8 hw;have hg:wr.grownBy w8 (some go5):=(by rw [hw];exact HP7.2);have hp_:Kd.R (Kd.int .i64) 3 w8 w0.heap.size (fun k_=>(P0_ k_∨w.heap.size≤k_)) (.slice (some ⟨go5,0,none⟩) x0_1.length co6) y137:=(by rw [hw,Ny137.out];exact HP7.1);clear HP7;have n0_:=Am (hp_);have n1_:=Am ((by rw [hw];exact bS (HB.out) GB5.out:Below w0.heap.size w0 w8));have n2_:=Am (Kept.of_grown (S:=(fun k_=>P0_ k_)) hg (by repeat (first|(with_reducible first|exact HK.out|apply Kept.alloc|apply Kept.drewN|apply Kept.drew)|exact HK.out)) (fun k_ e_=>(Ba.out.1 k_ e_)));clear Ba HB HK;revert n0_ n1_ n2_;intro Ba HB HK;clear hg hw hp_))
   go_roundg k1
   case measure=>have:=HK1.out;omega
   case rel=>exact ⟨(y137),(wrap64 (x1_1 + 1)),(wrap64 (x5_1 + 1)),(by first|rfl|(simp;done)|(simp [*];done)),(by first|rfl|(simp;done)|(simp [*];done)),H',⟨by have:=HK1.out;omega⟩,⟨by (with_reducible repeat (first|apply rA|apply rN|apply rD));exact Ba.out⟩,⟨by repeat (first|(with_reducible first|exact HK.out|apply Kept.alloc|apply Kept.drewN|apply Kept.drew)|exact HK.out)⟩,⟨by repeat (first|(with_reducible first|exact HB.out|apply oA|apply pN|apply o1)|exact HB.out)⟩⟩/-! ### laws_markSigs: function 18 -/
def laws_markSigs.f (k : Nat) (l0_0 : List Bool) (l0_1 : List Bool) (l0_2 : List Int) (a1 : Int) : Option (Int × List Bool × List Bool × List Int) := (laws_markBoolS.f k l0_0 a1).bind fun bt139 => ((laws_markBoolS.f k l0_1 bt139.1).bind fun bt141 => ((laws_markIntS.f k l0_2 bt141.1).bind fun bt143 => (some (bt143.1, bt139.2, bt141.2, bt143.2))))
theorem laws_markSigs.mono : ∀ a0 a1 a2 a3 k, LeO (laws_markSigs.f k a0 a1 a2 a3) (laws_markSigs.f (k + 1) a0 a1 a2 a3) := by
 intro a0 a1 a2 a3 k
 unfold laws_markSigs.f
 repeat' first
  |(with_reducible exact laws_markBoolS.mono _ _ _)
  |(with_reducible exact laws_markIntS.mono _ _ _)
  |(with_reducible exact LeO.refl _)
  |(with_reducible exact LeO.none _)
  |(with_reducible refine LeO.ite ?_ ?_)
  |(with_reducible refine LeO.bind ?_ (fun _ => ?_))
  |exact laws_markBoolS.mono _ _ _
  |exact laws_markIntS.mono _ _ _
  |exact LeO.none _
  |refine LeO.ite ?_ ?_
  |refine LeO.bind ?_ (fun _ => ?_)
set_option maxHeartbeats 2000000 in
set_option maxRecDepth 100000 in
theorem laws_markSigs.calls (k:Nat) (P0_0_:Nat → Prop) (u9000_:Value) (l0_0:List Bool) (P0_1_:Nat → Prop) (u9001_:Value) (l0_1:List Bool) (P0_2_:Nat → Prop) (u9002_:Value) (l0_2:List Int) (a1:Int) (r1:Int) (r2:List Bool) (r3:List Bool) (r4:List Int) (w0 w:World) (hB:Below w0.heap.size w0 w) (ho0_0:Kd.R Kd.bool 4 w w0.heap.size P0_0_ u9000_ l0_0) (hp0_0_0_1:∀ k_,P0_0_ k_ → ¬ P0_1_ k_) (ho0_1:Kd.R Kd.bool 4 w w0.heap.size P0_1_ u9001_ l0_1) (hp0_1_0_0:∀ k_,P0_1_ k_ → ¬ P0_0_ k_) (ho0_2:Kd.R (Kd.int .i64) 3 w w0.heap.size P0_2_ u9002_ l0_2) (h:laws_markSigs.f k l0_0 l0_1 l0_2 a1=some (r1,r2,r3,r4)) :
  Calls Try.prog 18 #[.agg #[u9000_,u9001_,u9002_],.int .i64 a1] w fun e w'=>e=.returned (.int .i64 r1)∧Kd.R Kd.bool 4 w' w0.heap.size (fun k_=>((P0_0_ k_∨P0_1_ k_∨P0_2_ k_)∨w.heap.size≤k_)) u9000_ r2∧Kd.R Kd.bool 4 w' w0.heap.size (fun k_=>((P0_0_ k_∨P0_1_ k_∨P0_2_ k_)∨w.heap.size≤k_)) u9001_ r3∧Kd.R (Kd.int .i64) 3 w' w0.heap.size (fun k_=>((P0_0_ k_∨P0_1_ k_∨P0_2_ k_)∨w.heap.size≤k_)) u9002_ r4∧Below w0.heap.size w0 w'∧Kept w w' (fun k_=>P0_0_ k_∨P0_1_ k_∨P0_2_ k_):=by
 have hu27:=Try.underlying27
 have Bc:=Am (show Kd.R Kd.bool 4 w w0.heap.size (fun k_=>((P0_0_ k_∨P0_1_ k_∨P0_2_ k_)∨w.heap.size≤k_)∧some k_≠(u9001_:Value).ownBlock) u9000_ l0_0 from rM ho0_0 (fun k_ hk=>⟨(.inl (.inl hk)),fun e_=>hp0_0_0_1 k_ hk (ho0_1.1 k_ e_.symm)⟩))
 have Bd:=Am (show Kd.R Kd.bool 4 w w0.heap.size (fun k_=>((P0_0_ k_∨P0_1_ k_∨P0_2_ k_)∨w.heap.size≤k_)∧some k_≠(u9000_:Value).ownBlock) u9001_ l0_1 from rM ho0_1 (fun k_ hk=>⟨(.inl (.inr (.inl hk))),fun e_=>hp0_1_0_0 k_ hk (ho0_0.1 k_ e_.symm)⟩))
 have Bb:=Am (show Kd.R (Kd.int .i64) 3 w w0.heap.size (fun k_=>((P0_0_ k_∨P0_1_ k_∨P0_2_ k_)∨w.heap.size≤k_)) u9002_ l0_2 from rM ho0_2 (fun k_ hk=>(.inl (.inr (.inr hk)))))
 have HK:=Am (Kept.refl w (fun k_=>P0_0_ k_∨P0_1_ k_∨P0_2_ k_))
 have HW0:=Am hB.size
 have HB:=Am hB
 clear hB
 have H:((laws_markBoolS.f k l0_0 a1).bind fun bt139=>((laws_markBoolS.f k l0_1 bt139.1).bind fun bt141=>((laws_markIntS.f k l0_2 bt141.1).bind fun bt143=>(some (bt143.1,bt139.2,bt141.2,bt143.2)))))=some (r1,r2,r3,r4):=h
 clear h
 replace H:=oC H
 obtain ⟨⟨t139,t140⟩,A30,H⟩:=H
 replace H:((laws_markBoolS.f k l0_1 t139).bind fun bt141=>((laws_markIntS.f k l0_2 bt141.1).bind fun bt143=>(some (bt143.1,t140,bt141.2,bt143.2))))=some (r1,r2,r3,r4):=H
 have A3:=Am A30
 clear A30
 replace H:=oC H
 obtain ⟨⟨t141,t142⟩,A40,H⟩:=H
 replace H:((laws_markIntS.f k l0_2 t141).bind fun bt143=>(some (bt143.1,t140,t142,bt143.2)))=some (r1,r2,r3,r4):=H
 have A4:=Am A40
 clear A40
 replace H:=oC H
 obtain ⟨⟨t143,t144⟩,A50,H⟩:=H
 replace H:(some (t143,t140,t142,t144))=some (r1,r2,r3,r4):=H
 have A5:=Am A50
 clear A50
 simp only [Option.some.injEq,Prod.mk.injEq] at H
 obtain ⟨rfl,rfl,rfl,rfl⟩:=H
 obtain ⟨Ao6,co6,eo6⟩:=rC Bc.out
 subst eo6
 obtain ⟨Ao7,co7,eo7⟩:=rC Bd.out
 subst eo7
 obtain ⟨Ao8,co8,eo8⟩:=rC Bb.out
 subst eo8
 go_enter Try.func18,Try.ntmps18
 go_wp2_with (first|((with_reducible refine gD (N:=2) rfl ?_);refine bI ?hg (N:=2) ?hd (cs:=#[.slice Ao6 l0_0.length co6,.slice Ao7 l0_1.length co7,.slice Ao8 l0_2.length co8]) (t:=27) ?hr ?_;(case hd=>rfl);(case hg=>rfl);(case hr=>first|(go_simp;done)|(go_simp;rfl));intro Be hg w9 hbox hb;have n0_:=Am (rB (rL Bc.out) hb);have n1_:=Am (rB (rL Bd.out) hb);have n2_:=Am (rB (rL Bb.out) hb);have n3_:=Am (Kept.below (S:=(fun k_=>P0_0_ k_∨P0_1_ k_∨P0_2_ k_)) (by repeat (first|(with_reducible first|exact HK.out|apply Kept.alloc|apply Kept.drewN|apply Kept.drew)|exact HK.out)) hb);have n4_:=Am (bP (by repeat (first|(with_reducible first|exact HB.out|apply oA|apply pN|apply o1)|exact HB.out)) hb);have n5_:=Am (hbox);have n6_:=Am ((by rw [hg];exact (by first|exact HK.out.1|exact (show Kept w _ (fun k_=>P0_0_ k_∨P0_1_ k_∨P0_2_ k_) from by repeat (first|(with_reducible first|exact HK.out|apply Kept.alloc|apply Kept.drewN|apply Kept.drew)|exact HK.out)).1):w.heap.size≤Be));have n7_:=Am ((by rw [hg];exact (bZ (by repeat (first|(with_reducible first|exact HB.out|apply oA|apply pN|apply o1)|exact HB.out))):w0.heap.size≤Be));clear Bc Bd Bb HK HB;revert n0_ n1_ n2_ n3_ n4_ n5_ n6_ n7_;intro Bc Bd Bb HK HB Ba Bf Bg;clear hb hbox hg;have Bh:=cz0 Ba.out;have Bi:=cz1 Ba.out;have Bj:=cz2 Ba.out;have Bk:=bF Ba.out 0;have Bl:=bF Ba.out 1;have Bm:=bF Ba.out 2)|((with_reducible refine gC (f:=24) rfl ?_);refine goesL_ (some 8) rfl rfl Try.func24 (by kernel_rfl) rfl #[.slice Ao6 l0_0.length co6,.int .i64 a1] rfl (by (try simp only [lM,lC,lN]);first|done|rfl|(simp only [lD,lT];rfl)) ?_;(with_reducible refine (laws_markBoolS.calls k (fun k_=>some k_=(.slice Ao6 l0_0.length co6:Value).ownBlock) (.slice Ao6 l0_0.length co6) l0_0 a1 t139 t140 w0 _ ?side1 ?side2 A3.out).mono ?_);(case side1=>repeat (first|(with_reducible first|exact HB.out|apply oA|apply pN|apply o1|refine bS ?_ Bg.out)|exact HB.out));(case side2=>exact Kd.R_tight rfl Bc.out);rintro e w11 ⟨rfl,hy0,hb,hkp⟩;refine ⟨_,rfl,?_⟩;have n0_:=Am (Kd.R_reok rfl hy0 (fun k_ e_=>Bc.out.1 k_ e_));have n1_:=Am (rM (ok':=fun k_=>((P0_0_ k_∨P0_1_ k_∨P0_2_ k_)∨w.heap.size≤k_)∧some k_≠(.slice Ao6 l0_0.length co6:Value).ownBlock) (Kd.R_keptB (Bd.out) hkp (fun k_ hk_ hs_=>(hk_.2) hs_)) (fun k_ hk_=>⟨hk_.1.1,hk_.1.2⟩));have n2_:=Am (rM (ok':=fun k_=>((P0_0_ k_∨P0_1_ k_∨P0_2_ k_)∨w.heap.size≤k_)) (Kd.R_keptB ((Kd.R_apart' Bb.out (rY Bc.out) (by decide))) hkp (fun k_ hk_ hs_=>(hk_.2) hs_)) (fun k_ hk_=>hk_.1.1));have n3_:=Am (blk_kept (bL Ba.out) hkp (fun hs_=>(fun e_=>(rE Bc.out Ba.out (by decide)) e_) hs_));have n4_:=Am (Kept.then_ (S:=(fun k_=>P0_0_ k_∨P0_1_ k_∨P0_2_ k_)) (by repeat (first|(with_reducible first|exact HK.out|apply Kept.alloc|apply Kept.drewN|apply Kept.drew|refine Kept.setCell ?_ (.inr Bf.out) _)|exact HK.out)) hkp (fun k_ hs_=>(fun e_=>(Bc.out.1 k_ e_.symm).1) hs_));have n5_:=Am (hb);clear Bc Bd Bb Ba HK HB;revert n0_ n1_ n2_ n3_ n4_ n5_;intro Bc Bd Bb Ba HK HB;(try clear hb);(try clear hkp);(try clear hy0);have Bn:=cz0 Ba.out;have Bo:=cz1 Ba.out;have Bp:=cz2 Ba.out;have Bq:=bF Ba.out 0;have Br:=bF Ba.out 1;have Bs:=bF Ba.out 2)|((with_reducible refine gC (f:=24) rfl ?_);refine goesL_ (some 12) rfl rfl Try.func24 (by kernel_rfl) rfl #[.slice Ao7 l0_1.length co7,.int .i64 t139] rfl (by (try simp only [lM,lC,lN]);first|done|rfl|(simp only [lD,lT];rfl)) ?_;(with_reducible refine (laws_markBoolS.calls k (fun k_=>some k_=(.slice Ao7 l0_1.length co7:Value).ownBlock) (.slice Ao7 l0_1.length co7) l0_1 t139 t141 t142 w0 _ ?side1 ?side2 A4.out).mono ?_);(case side1=>repeat (first|(with_reducible first|exact HB.out|apply oA|apply pN|apply o1|refine bS ?_ Bg.out)|exact HB.out));(case side2=>exact Kd.R_tight rfl Bd.out);rintro e w13 ⟨rfl,hy0,hb,hkp⟩;refine ⟨_,rfl,?_⟩;have n0_:=Am (rM (ok':=fun k_=>((P0_0_ k_∨P0_1_ k_∨P0_2_ k_)∨w.heap.size≤k_)∧some k_≠(.slice Ao7 l0_1.length co7:Value).ownBlock) (Kd.R_keptB (Bc.out) hkp (fun k_ hk_ hs_=>(hk_.2) hs_)) (fun k_ hk_=>⟨hk_.1.1,hk_.1.2⟩));have n1_:=Am (Kd.R_reok rfl hy0 (fun k_ e_=>Bd.out.1 k_ e_));have n2_:=Am (rM (ok':=fun k_=>((P0_0_ k_∨P0_1_ k_∨P0_2_ k_)∨w.heap.size≤k_)) (Kd.R_keptB ((Kd.R_apart' Bb.out (rY Bd.out) (by decide))) hkp (fun k_ hk_ hs_=>(hk_.2) hs_)) (fun k_ hk_=>hk_.1.1));have n3_:=Am (blk_kept (bL Ba.out) hkp (fun hs_=>(fun e_=>(rE Bd.out Ba.out (by decide)) e_) hs_));have n4_:=Am (Kept.then_ (S:=(fun k_=>P0_0_ k_∨P0_1_ k_∨P0_2_ k_)) (by repeat (first|(with_reducible first|exact HK.out|apply Kept.alloc|apply Kept.drewN|apply Kept.drew|refine Kept.setCell ?_ (.inr Bf.out) _)|exact HK.out)) hkp (fun k_ hs_=>(fun e_=>(Bd.out.1 k_ e_.symm).1) hs_));have n5_:=Am (hb);clear Bc Bd Bb Ba HK HB;revert n0_ n1_ n2_ n3_ n4_ n5_;intro Bc Bd Bb Ba HK HB;(try clear hb);(try clear hkp);(try clear hy0);have Bt:=cz0 Ba.out;have Bu:=cz1 Ba.out;have Bv:=cz2 Ba.out;have Bw:=bF Ba.out 0;have Bx:=bF Ba.out 1;have By:=bF Ba.out 2)|((with_reducible refine gC (f:=62) rfl ?_);refine goesL_ (some 16) rfl rfl Try.func62 (by kernel_rfl) rfl #[.slice Ao8 l0_2.length co8,.int .i64 t141] rfl (by (try simp only [lM,lC,lN]);first|done|rfl|(simp only [lD,lT];rfl)) ?_;(with_reducible refine (laws_markIntS.calls k (fun k_=>some k_=(.slice Ao8 l0_2.length co8:Value).ownBlock) (.slice Ao8 l0_2.length co8) l0_2 t141 t143 t144 w0 _ ?side1 ?side2 A5.out).mono ?_);(case side1=>repeat (first|(with_reducible first|exact HB.out|apply oA|apply pN|apply o1|refine bS ?_ Bg.out)|exact HB.out));(case side2=>exact Kd.R_tight rfl Bb.out);rintro e w15 ⟨rfl,hy0,hb,hkp⟩;refine ⟨_,rfl,?_⟩;have n0_:=Am (rM (ok':=fun k_=>((P0_0_ k_∨P0_1_ k_∨P0_2_ k_)∨w.heap.size≤k_)∧some k_≠(.slice Ao7 l0_1.length co7:Value).ownBlock) (Kd.R_keptB ((Kd.R_apart' Bc.out (rY Bb.out) (by decide))) hkp (fun k_ hk_ hs_=>(hk_.2) hs_)) (fun k_ hk_=>⟨hk_.1.1.1,hk_.1.1.2⟩));have n1_:=Am (rM (ok':=fun k_=>((P0_0_ k_∨P0_1_ k_∨P0_2_ k_)∨w.heap.size≤k_)∧some k_≠(.slice Ao6 l0_0.length co6:Value).ownBlock) (Kd.R_keptB ((Kd.R_apart' Bd.out (rY Bb.out) (by decide))) hkp (fun k_ hk_ hs_=>(hk_.2) hs_)) (fun k_ hk_=>⟨hk_.1.1.1,hk_.1.1.2⟩));have n2_:=Am (Kd.R_reok rfl hy0 (fun k_ e_=>Bb.out.1 k_ e_));have n3_:=Am (blk_kept (bL Ba.out) hkp (fun hs_=>(fun e_=>(rE Bb.out Ba.out (by decide)) e_) hs_));have n4_:=Am (Kept.then_ (S:=(fun k_=>P0_0_ k_∨P0_1_ k_∨P0_2_ k_)) (by repeat (first|(with_reducible first|exact HK.out|apply Kept.alloc|apply Kept.drewN|apply Kept.drew|refine Kept.setCell ?_ (.inr Bf.out) _)|exact HK.out)) hkp (fun k_ hs_=>(fun e_=>(Bb.out.1 k_ e_.symm)) hs_));have n5_:=Am (hb);clear Bc Bd Bb Ba HK HB;revert n0_ n1_ n2_ n3_ n4_ n5_;intro Bc Bd Bb Ba HK HB;(try clear hb);(try clear hkp);(try clear hy0)))
 go_ret
 exact ⟨by first|rfl|(simp [errW_none,errW_some] <;> rfl)|(simp [*,errW_none,errW_some] <;> rfl),by (with_reducible repeat (first|apply rA|apply rN|apply rD));exact rM Bc.out (fun _ hk=>hk.1),by (with_reducible repeat (first|apply rA|apply rN|apply rD));exact rM Bd.out (fun _ hk=>hk.1),by (with_reducible repeat (first|apply rA|apply rN|apply rD));exact Bb.out,by repeat (first|(with_reducible first|exact HB.out|apply oA|apply pN|apply o1|refine bS ?_ Bg.out)|exact HB.out),by repeat (first|(with_reducible first|exact HK.out|apply Kept.alloc|apply Kept.drewN|apply Kept.drew|refine Kept.setCell ?_ (.inr Bf.out) _)|exact HK.out)⟩

/-! ### laws_heldBoolS: function 63 -/
def laws_heldBoolS.l0 : Nat → List Bool → Int → Int → Option (Int)
|0, _, _, _ => none
|k + 1, x0, x1, x5 => if x5 < (x0.length : Int) then (if 0 ≤ x5 then (if ((rdOf false x0 x5) != ((Int.tmod x1 3) == 0)) = true then (some (-1)) else (laws_heldBoolS.l0 k x0 (wrap64 (x1 + 1)) (wrap64 (x5 + 1)))) else (none)) else (some x1)
def laws_heldBoolS.f (k : Nat) (l0 : List Bool) (a1 : Int) : Option (Int) := laws_heldBoolS.l0 k l0 a1 0
theorem laws_heldBoolS.mono_l : ∀ k, (∀ y0 y1 y2, LeO (laws_heldBoolS.l0 k y0 y1 y2) (laws_heldBoolS.l0 (k + 1) y0 y1 y2))
|0 => fun _ _ _ r h => by simp [laws_heldBoolS.l0] at h
|k + 1 => by
  have ih0 := laws_heldBoolS.mono_l k
  ·intro y0 y1 y2
   unfold laws_heldBoolS.l0
   repeat' first
  |(with_reducible exact ih0 _ _ _)
  |(with_reducible exact LeO.refl _)
  |(with_reducible exact LeO.none _)
  |(with_reducible refine LeO.ite ?_ ?_)
  |(with_reducible refine LeO.bind ?_ (fun _ => ?_))
  |exact ih0 _ _ _
  |exact LeO.none _
  |refine LeO.ite ?_ ?_
  |refine LeO.bind ?_ (fun _ => ?_)
theorem laws_heldBoolS.mono : ∀ a0 a1 k, LeO (laws_heldBoolS.f k a0 a1) (laws_heldBoolS.f (k + 1) a0 a1) := by
 intro a0 a1 k
 have ih0 := laws_heldBoolS.mono_l k
 unfold laws_heldBoolS.f
 repeat' first
  |(with_reducible exact ih0 _ _ _)
  |(with_reducible exact LeO.refl _)
  |(with_reducible exact LeO.none _)
  |(with_reducible refine LeO.ite ?_ ?_)
  |(with_reducible refine LeO.bind ?_ (fun _ => ?_))
  |exact ih0 _ _ _
  |exact LeO.none _
  |refine LeO.ite ?_ ?_
  |refine LeO.bind ?_ (fun _ => ?_)
set_option maxHeartbeats 2000000 in
set_option maxRecDepth 100000 in
theorem laws_heldBoolS.calls (k:Nat) (A0:Option Addr) (c0:Nat) (l0:List Bool) (a1:Int) (r:Int) (w:World) (hr0:Kd.C Kd.bool w A0 l0.length l0) (hc0:l0.length≤c0) (h:laws_heldBoolS.f k l0 a1=some r) :
  Calls Try.prog 63 #[.slice A0 l0.length c0,.int .i64 a1] w fun e w'=>e=.returned (.int .i64 r)∧Drawn0 w w':=by
 have HR0:=Am hr0
 have HC0:=Am hc0
 clear hr0 hc0
 have H:(laws_heldBoolS.l0 k l0 a1 0)=some r:=h
 clear h
 have H':=Am H
 clear H
 go_enter Try.func63,Try.ntmps63
 go_wp2
 go_loopg [1,5] k (fun kq v1 v5 w'=>∃ (x1_1:Int) (x5_1:Int),v1=.int .i64 x1_1∧v5=.int .i64 x5_1∧Aside0 (laws_heldBoolS.l0 kq l0 x1_1 x5_1=some r)∧Aside0 (kq≤k)∧Drawn0 w w')
 case atStart=>exact ⟨(a1),(0),(by first|rfl|(simp;done)|(simp [*];done)),(by first|rfl|(simp;done)|(simp [*];done)),H',⟨nR _⟩,by repeat (first|exact Drawn0.refl _|apply Drawn0.step)⟩
 case round =>
  clear H'
  try clear p2
  obtain ⟨x1_1,x5_1,rfl,rfl,HA,HK1,⟨m1,rfl⟩⟩:=hrel
  cases gk with
 |zero=>exact absurd HA.out (by simp [laws_heldBoolS.l0])
 |succ k1 =>
   have H:=HA.out
   clear HA
   simp only [laws_heldBoolS.l0] at H
   by_cases c3:x5_1<(l0.length:Int)
   rotate_left
   ·rw [if_neg c3] at H
    have c3b0:decide (x5_1<(l0.length:Int))=false:=dF c3
    clear c3
    obtain rfl:=oJ H
    go_wp2
    go_ret
    exact ⟨by first|rfl|(simp;done)|(simp [*];done),by repeat (first|exact Drawn0.refl _|apply Drawn0.step)⟩


   rw [if_pos c3] at H
   have c3b0:decide (x5_1<(l0.length:Int))=true:=dT c3
   clear c3
   by_cases c4:0≤x5_1
   rotate_left
   ·rw [if_neg c4] at H
    exact absurd H (by simp)
   rw [if_pos c4] at H
   have c4b0:decide (0≤x5_1)=true:=dT c4
   clear c4
   by_cases c5:((rdOf false l0 x5_1) != ((Int.tmod x1_1 3) == 0))=true
   ·rw [if_pos c5] at H
    have c5b0:((rdOf false l0 x5_1) != ((Int.tmod x1_1 3) == 0))=true:=c5
    (try (have c5b1:decide ((rdOf false l0 x5_1)=((Int.tmod x1_1 3) == 0))=false:=by simpa using c5))
    (try (have c5b2:((rdOf false l0 x5_1) == ((Int.tmod x1_1 3) == 0))=false:=by simpa using c5))
    (try (have c5b3:¬ ((rdOf false l0 x5_1)=((Int.tmod x1_1 3) == 0)):=by simpa using c5))
    clear c5
    obtain rfl:=oJ H
    have p145:0≤(x5_1:Int):=oE (by first|(with_reducible assumption)|assumption)
    have q145:x5_1<(l0.length:Int):=oE (by first|(with_reducible assumption)|assumption)
    obtain ⟨ad145,e145,hx145_0⟩:=Kd.at_bool HR0.out x5_1 p145 q145
    cases e145
    replace p145:=eq_true p145
    replace q145:=eq_true q145
    go_wp2
    go_ret
    exact ⟨by first|rfl|(simp;done)|(simp [*];done),by repeat (first|exact Drawn0.refl _|apply Drawn0.step)⟩
   rw [if_neg c5] at H
   have c5b0:((rdOf false l0 x5_1) != ((Int.tmod x1_1 3) == 0))=false:=by simpa using c5
   (try (have c5b1:decide ((rdOf false l0 x5_1)=((Int.tmod x1_1 3) == 0))=true:=by simpa using c5))
   (try (have c5b2:((rdOf false l0 x5_1) == ((Int.tmod x1_1 3) == 0))=true:=by simpa using c5))
   clear c5
   have H':=Am H
   clear H
   have p145:0≤(x5_1:Int):=oE (by first|(with_reducible assumption)|assumption)
   have q145:x5_1<(l0.length:Int):=oE (by first|(with_reducible assumption)|assumption)
   obtain ⟨ad145,e145,hx145_0⟩:=Kd.at_bool HR0.out x5_1 p145 q145
   cases e145
   replace p145:=eq_true p145
   replace q145:=eq_true q145
   go_wp2
   go_roundg k1
   case measure=>have:=HK1.out;omega
   case rel=>exact ⟨(wrap64 (x1_1 + 1)),(wrap64 (x5_1 + 1)),(by first|rfl|(simp;done)|(simp [*];done)),(by first|rfl|(simp;done)|(simp [*];done)),H',⟨by have:=HK1.out;omega⟩,by repeat (first|exact Drawn0.refl _|apply Drawn0.step)⟩/-! ### laws_heldIntS: function 64 -/
def laws_heldIntS.l0 : Nat → List Int → Int → Int → Option (Int)
|0, _, _, _ => none
|k + 1, x0, x1, x5 => if x5 < (x0.length : Int) then (if 0 ≤ x5 then (if (rd x0 x5) = x1 then (laws_heldIntS.l0 k x0 (wrap64 (x1 + 1)) (wrap64 (x5 + 1))) else (some (-1))) else (none)) else (some x1)
def laws_heldIntS.f (k : Nat) (l0 : List Int) (a1 : Int) : Option (Int) := laws_heldIntS.l0 k l0 a1 0
theorem laws_heldIntS.mono_l : ∀ k, (∀ y0 y1 y2, LeO (laws_heldIntS.l0 k y0 y1 y2) (laws_heldIntS.l0 (k + 1) y0 y1 y2))
|0 => fun _ _ _ r h => by simp [laws_heldIntS.l0] at h
|k + 1 => by
  have ih0 := laws_heldIntS.mono_l k
  ·intro y0 y1 y2
   unfold laws_heldIntS.l0
   repeat' first
  |(with_reducible exact ih0 _ _ _)
  |(with_reducible exact LeO.refl _)
  |(with_reducible exact LeO.none _)
  |(with_reducible refine LeO.ite ?_ ?_)
  |(with_reducible refine LeO.bind ?_ (fun _ => ?_))
  |exact ih0 _ _ _
  |exact LeO.none _
  |refine LeO.ite ?_ ?_
  |refine LeO.bind ?_ (fun _ => ?_)
theorem laws_heldIntS.mono : ∀ a0 a1 k, LeO (laws_heldIntS.f k a0 a1) (laws_heldIntS.f (k + 1) a0 a1) := by
 intro a0 a1 k
 have ih0 := laws_heldIntS.mono_l k
 unfold laws_heldIntS.f
 repeat' first
  |(with_reducible exact ih0 _ _ _)
  |(with_reducible exact LeO.refl _)
  |(with_reducible exact LeO.none _)
  |(with_reducible refine LeO.ite ?_ ?_)
  |(with_reducible refine LeO.bind ?_ (fun _ => ?_))
  |exact ih0 _ _ _
  |exact LeO.none _
  |refine LeO.ite ?_ ?_
  |refine LeO.bind ?_ (fun _ => ?_)
set_option maxHeartbeats 2000000 in
set_option maxRecDepth 100000 in
theorem laws_heldIntS.calls (k:Nat) (A0:Option Addr) (c0:Nat) (l0:List Int) (a1:Int) (r:Int) (w:World) (hr0:Kd.C (Kd.int .i64) w A0 l0.length l0) (hc0:l0.length≤c0) (h:laws_heldIntS.f k l0 a1=some r) :
  Calls Try.prog 64 #[.slice A0 l0.length c0,.int .i64 a1] w fun e w'=>e=.returned (.int .i64 r)∧Drawn0 w w':=by
 have HR0:=Am hr0
 have HC0:=Am hc0
 clear hr0 hc0
 have H:(laws_heldIntS.l0 k l0 a1 0)=some r:=h
 clear h
 have H':=Am H
 clear H
 go_enter Try.func64,Try.ntmps64
 go_wp2
 go_loopg [1,5] k (fun kq v1 v5 w'=>∃ (x1_1:Int) (x5_1:Int),v1=.int .i64 x1_1∧v5=.int .i64 x5_1∧Aside0 (laws_heldIntS.l0 kq l0 x1_1 x5_1=some r)∧Aside0 (kq≤k)∧Drawn0 w w')
 case atStart=>exact ⟨(a1),(0),(by first|rfl|(simp;done)|(simp [*];done)),(by first|rfl|(simp;done)|(simp [*];done)),H',⟨nR _⟩,by repeat (first|exact Drawn0.refl _|apply Drawn0.step)⟩
 case round =>
  clear H'
  try clear p2
  obtain ⟨x1_1,x5_1,rfl,rfl,HA,HK1,⟨m1,rfl⟩⟩:=hrel
  cases gk with
 |zero=>exact absurd HA.out (by simp [laws_heldIntS.l0])
 |succ k1 =>
   have H:=HA.out
   clear HA
   simp only [laws_heldIntS.l0] at H
   by_cases c3:x5_1<(l0.length:Int)
   rotate_left
   ·rw [if_neg c3] at H
    have c3b0:decide (x5_1<(l0.length:Int))=false:=dF c3
    clear c3
    obtain rfl:=oJ H
    go_wp2
    go_ret
    exact ⟨by first|rfl|(simp;done)|(simp [*];done),by repeat (first|exact Drawn0.refl _|apply Drawn0.step)⟩

   rw [if_pos c3] at H
   have c3b0:decide (x5_1<(l0.length:Int))=true:=dT c3
   clear c3
   by_cases c4:0≤x5_1
   rotate_left
   ·rw [if_neg c4] at H
    exact absurd H (by simp)
   rw [if_pos c4] at H
   have c4b0:decide (0≤x5_1)=true:=dT c4
   clear c4
   by_cases c5:(rd l0 x5_1)=x1_1
   rotate_left
   ·rw [if_neg c5] at H
    have c5b0:((rd l0 x5_1) == x1_1)=false:=beq_eq_false_iff_ne.mpr c5
    have c5b1:((rd l0 x5_1) != x1_1)=true:=bne_iff_ne.mpr c5
    obtain rfl:=oJ H
    have p146:0≤(x5_1:Int):=oE (by first|(with_reducible assumption)|assumption)
    have q146:x5_1<(l0.length:Int):=oE (by first|(with_reducible assumption)|assumption)
    obtain ⟨ad146,e146,hx146_0⟩:=Kd.at_int HR0.out x5_1 p146 q146
    cases e146
    replace p146:=eq_true p146
    replace q146:=eq_true q146
    go_wp2
    go_ret
    exact ⟨by first|rfl|(simp;done)|(simp [*];done),by repeat (first|exact Drawn0.refl _|apply Drawn0.step)⟩
   rw [if_pos c5] at H
   have c5b0:((rd l0 x5_1) == x1_1)=true:=beq_iff_eq.mpr c5
   have c5b1:((rd l0 x5_1) != x1_1)=false:=bne_eq_false_iff_eq.mpr c5
   clear c5
   have H':=Am H
   clear H
   have p146:0≤(x5_1:Int):=oE (by first|(with_reducible assumption)|assumption)
   have q146:x5_1<(l0.length:Int):=oE (by first|(with_reducible assumption)|assumption)
   obtain ⟨ad146,e146,hx146_0⟩:=Kd.at_int HR0.out x5_1 p146 q146
   cases e146
   replace p146:=eq_true p146
   replace q146:=eq_true q146
   go_wp2
   go_roundg k1
   case measure=>have:=HK1.out;omega
   case rel=>exact ⟨(wrap64 (x1_1 + 1)),(wrap64 (x5_1 + 1)),(by first|rfl|(simp;done)|(simp [*];done)),(by first|rfl|(simp;done)|(simp [*];done)),H',⟨by have:=HK1.out;omega⟩,by repeat (first|exact Drawn0.refl _|apply Drawn0.step)⟩
end Go.Proofs.Ytehekikjadjdaaa.PFnExactSigsRun
