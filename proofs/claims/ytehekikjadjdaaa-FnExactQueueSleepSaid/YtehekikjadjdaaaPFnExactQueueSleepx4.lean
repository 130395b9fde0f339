/- Proved here, without a condition beyond those that each theorem states: what the Go functions named below do is what the plain functions of the same names say. Written by xprint.py, a program of this session. -/
import Derived.Test.YtehekikjadjdaaaPFnExactQueueSleepx0
import Derived.Test.YtehekikjadjdaaaPFnExactQueueSleepx3
namespace Go.Proofs.Ytehekikjadjdaaa.PFnExactQueueSleep
open Go.RowKit Go.Proofs.YtehekikjadjdaaaW.PrintWords Go.Proofs.YtehekikjadjdaaaW.PrintLast Go.Proofs.YtehekikjadjdaaaW.PrintMore
attribute [local go_sem] max2_int min2_int max_two min_two max_three min_three max_four min_four   -- for this text's walks alone
set_option linter.unusedVariables false
set_option linter.unusedSimpArgs false

attribute [local go_sem ↓] isSome_setCell_
/-! ### laws_toTaskS: function 72 -/
def laws_toTaskS.l0 : Nat → List (S108) → List (S86) → Int → Option ((List (S86)))
|0, _, _, _ => none
|k + 1, x0, x3, x4 => if x4 < (x0.length : Int) then (if 0 ≤ x4 then ((laws_toTask.f ((rd_T108 x0 x4).f0) ((rd_T108 x0 x4).f1) ((rd_T108 x0 x4).f2) ((rd_T108 x0 x4).f3)).bind fun bt138 => (if x4 < (x3.length : Int) then (laws_toTaskS.l0 k x0 (x3.set (x4 : Int).toNat (⟨bt138.1, bt138.2.1, bt138.2.2.1, bt138.2.2.2⟩ : S86)) (wrap64 (x4 + 1))) else (none))) else (none)) else (some x3)
def laws_toTaskS.f (k : Nat) (l0 : List (S108)) : Option ((List (S86))) := if 0 ≤ (l0.length : Int) then (if ((l0.length : Int) : Int).toNat ≤ 8796093022208 then (laws_toTaskS.l0 k l0 (List.replicate ((l0.length : Int) : Int).toNat z86) 0) else (none)) else (none)
theorem laws_toTaskS.mono_l : ∀ k, (∀ y0 y1 y2, LeO (laws_toTaskS.l0 k y0 y1 y2) (laws_toTaskS.l0 (k + 1) y0 y1 y2))
|0 => fun _ _ _ r h => by simp [laws_toTaskS.l0] at h
|k + 1 => by
  have ih0 := laws_toTaskS.mono_l k
  ·intro y0 y1 y2
   unfold laws_toTaskS.l0
   repeat' first
  |(with_reducible exact ih0 _ _ _)
  |(with_reducible exact LeO.refl _)
  |(with_reducible exact LeO.none _)
  |(with_reducible refine LeO.ite ?_ ?_)
  |(with_reducible refine LeO.bind ?_ (fun _ => ?_))
  |exact ih0 _ _ _
  |exact LeO.none _
  |refine LeO.ite ?_ ?_
  |refine LeO.bind ?_ (fun _ => ?_)
theorem laws_toTaskS.mono : ∀ a0 k, LeO (laws_toTaskS.f k a0) (laws_toTaskS.f (k + 1) a0) := by
 intro a0 k
 have ih0 := laws_toTaskS.mono_l k
 unfold laws_toTaskS.f
 repeat' first
  |(with_reducible exact ih0 _ _ _)
  |(with_reducible exact LeO.refl _)
  |(with_reducible exact LeO.none _)
  |(with_reducible refine LeO.ite ?_ ?_)
  |(with_reducible refine LeO.bind ?_ (fun _ => ?_))
  |exact ih0 _ _ _
  |exact LeO.none _
  |refine LeO.ite ?_ ?_
  |refine LeO.bind ?_ (fun _ => ?_)
set_option maxHeartbeats 2000000 in
set_option maxRecDepth 100000 in
theorem laws_toTaskS.calls (k:Nat) (A0:Option Addr) (c0:Nat) (l0:List (S108)) (r:List (S86)) (w:World) (hr0:Kd.C k108 w A0 l0.length l0) (hc0:l0.length≤c0) (h:laws_toTaskS.f k l0=some r) :
  Calls Try.prog 72 #[.slice A0 l0.length c0] w fun e w'=>∃ v0_:Value,e=.returned (v0_)∧Kd.R k86 86 w' w.heap.size (fun _=>True) v0_ r∧Below w.heap.size w w':=by
 have hu108:=Try.underlying108
 have hu86:=Try.underlying86
 have HR0:=Am hr0
 have HC0:=Am hc0
 clear hr0 hc0
 have HB:=Am (Below.refl w.heap.size w)
 have H:(if 0≤(l0.length:Int) then (if ((l0.length:Int):Int).toNat≤8796093022208 then (laws_toTaskS.l0 k l0 (List.replicate ((l0.length:Int):Int).toNat z86) 0) else (none)) else (none))=some r:=h
 clear h
 by_cases c2:0≤(l0.length:Int)
 rotate_left
 ·rw [if_neg c2] at H
  exact absurd H (by simp)


 rw [if_pos c2] at H
 have c2b0:=eq_true c2
 have c2b1:decide (0≤(l0.length:Int))=true:=decide_eq_true c2
 clear c2
 by_cases c3:((l0.length:Int):Int).toNat≤8796093022208
 rotate_left
 ·rw [if_neg c3] at H
  exact absurd H (by simp)
 rw [if_pos c3] at H
 have c3b0:=eq_true c3
 have c3b1:decide (((l0.length:Int):Int).toNat≤8796093022208)=true:=decide_eq_true c3
 clear c3
 obtain ⟨y134,hy134⟩:∃ y_:List (S86),y_=(List.replicate ((l0.length:Int):Int).toNat z86):=⟨_,rfl⟩
 replace H:(laws_toTaskS.l0 k l0 y134 0)=some r:=by first|(rw [hy134];with_reducible exact H)|(have H2_:=(Option.bind_some _ _).symm.trans H;rw [hy134];with_reducible exact H2_)|(have H2_:=(Option.bind_some _ _).symm.trans H;with_reducible exact H2_)|with_reducible exact H|(rw [hy134];exact H)|exact H
 have Ny134:=Am hy134
 clear hy134
 have H':=Am H
 clear H
 go_enter Try.func72,Try.ntmps72
 go_wp2_with (first|((with_reducible refine gate_dst (N:=7) rfl ?_);refine Kd.R_make k86 _ 86 rfl (N:=7) rfl 45 _ _ rfl (l0.length:Int) rfl rfl Try.underlying45 (.agg #[(.int .i64 0),(.int .i64 0),(.int .i64 0),(.bool false)]) 32 info86 rfl (by decide) (by omega) z86 (ok:=fun _=>True) (okp:=fun _=>True) (k86_mkM _ _ _ z86 ) (fun _ hk=>hk) trivial (of_decide_eq_true (by first|(with_reducible assumption)|assumption)) (Nat.le_trans (Nat.mul_le_mul_right _ (of_decide_eq_true (by first|(with_reducible assumption)|assumption):(l0.length:Int).toNat≤8796093022208)) (by omega)) (Below.refl _ _) (Nat.le_refl _) ?_;intro v135 w4 ho5 hb hg_ hnew_;clear hg_ hnew_;(first|rw [← Ny134.out] at ho5|(simp only [Int.reduceToNat] at ho5;rw [← Ny134.out] at ho5));have n0_:=Am (Kd.R_lower ho5 (bZ (by repeat (first|(with_reducible first|exact HB.out|apply oA|apply pN|apply o1)|exact HB.out))));have n1_:=Am (bP (by repeat (first|(with_reducible first|exact HB.out|apply oA|apply pN|apply o1)|exact HB.out)) hb);clear HB;revert n0_ n1_;intro Bc HB;clear hb ho5))
 go_loopg [4] k (fun kq v4 w'=>∃ (x3_1:List (S86)) (x4_1:Int),v4=.int .i64 x4_1∧Aside0 (laws_toTaskS.l0 kq l0 x3_1 x4_1=some r)∧Aside0 (kq≤k)∧Aside0 (Kd.R k86 86 w' w.heap.size (fun _=>True) v135 x3_1)∧Aside0 (Below w.heap.size w w'))
 case atStart=>exact ⟨(y134),(0),(by first|rfl|(simp;done)|(simp [*];done)),H',⟨Nat.le_refl _⟩,⟨by (with_reducible repeat (first|apply rA|apply rN|apply rD));exact Bc.out⟩,⟨by repeat (first|(with_reducible first|exact HB.out|apply oA|apply pN|apply o1)|exact HB.out)⟩⟩
 case round =>
  clear H'
  try clear c2
  try clear c2b0
  try clear c2b1
  try clear p2
  try clear c3
  try clear c3b0
  try clear c3b1
  obtain ⟨x3_1,x4_1,rfl,HA,HK1,Ba,HB⟩:=hrel
  cases gk with
 |zero=>exact absurd HA.out (by simp [laws_toTaskS.l0])
 |succ k1 =>
   have H:=HA.out
   clear HA
   simp only [laws_toTaskS.l0] at H
   by_cases c6:x4_1<(l0.length:Int)
   rotate_left
   ·rw [if_neg c6] at H
    have c6b0:decide (x4_1<(l0.length:Int))=false:=decide_eq_false c6
    clear c6
    obtain rfl:=Option.some.inj H
    go_wp2
    go_ret
    exact ⟨_,by first|rfl|(simp [errW_none,errW_some] <;> rfl)|(simp [*,errW_none,errW_some] <;> rfl),by (with_reducible repeat (first|apply rA|apply rN|apply rD));exact Ba.out,by repeat (first|(with_reducible first|exact HB.out|apply oA|apply pN|apply o1)|exact HB.out)⟩
   rw [if_pos c6] at H
   have c6b0:decide (x4_1<(l0.length:Int))=true:=decide_eq_true c6
   clear c6
   by_cases c7:0≤x4_1
   rotate_left
   ·rw [if_neg c7] at H
    exact absurd H (by simp)
   rw [if_pos c7] at H
   have c7b0:decide (0≤x4_1)=true:=decide_eq_true c7
   clear c7
   replace H:=oC H
   obtain ⟨⟨t138,t139,t140,t141⟩,A80,H⟩:=H
   replace H:(if x4_1<(x3_1.length:Int) then (laws_toTaskS.l0 k1 l0 (x3_1.set (x4_1:Int).toNat (⟨t138,t139,t140,t141⟩:S86)) (wrap64 (x4_1 + 1))) else (none))=some r:=H
   have A8:=Am A80
   clear A80
   by_cases c9:x4_1<(x3_1.length:Int)
   rotate_left
   ·rw [if_neg c9] at H
    exact absurd H (by simp)
   rw [if_pos c9] at H
   have c9b0:decide (x4_1<(x3_1.length:Int))=true:=decide_eq_true c9
   clear c9
   obtain ⟨y142,hy142⟩:∃ y_:List (S86),y_=(x3_1.set (x4_1:Int).toNat (⟨t138,t139,t140,t141⟩:S86)):=⟨_,rfl⟩
   replace H:(laws_toTaskS.l0 k1 l0 y142 (wrap64 (x4_1 + 1)))=some r:=by first|(rw [hy142];with_reducible exact H)|(have H2_:=(Option.bind_some _ _).symm.trans H;rw [hy142];with_reducible exact H2_)|(have H2_:=(Option.bind_some _ _).symm.trans H;with_reducible exact H2_)|with_reducible exact H|(rw [hy142];exact H)|exact H
   have Ny142:=Am hy142
   clear hy142
   have H':=Am H
   clear H
   have p137:0≤(x4_1:Int):=of_decide_eq_true (by first|(with_reducible assumption)|assumption)
   have q137:x4_1<(l0.length:Int):=of_decide_eq_true (by first|(with_reducible assumption)|assumption)
   obtain ⟨ad137,e137,hx137_0,hx137_1,hx137_2,hx137_3⟩:=at_T108 HR0.out x4_1 p137 q137
   cases e137
   replace hx137_0:=(bW HB hx137_0:)
   replace hx137_1:=(bW HB hx137_1:)
   replace hx137_2:=(bW HB hx137_2:)
   replace hx137_3:=(bW HB hx137_3:)
   replace p137:=eq_true p137
   replace q137:=eq_true q137
   go_wp2_with (first|((with_reducible refine gate_callee (f:=100) rfl ?_);refine goesL_ (some 20) rfl rfl Try.func100 (by kernel_rfl) rfl #[.agg #[.int .i64 ((rd_T108 l0 x4_1).f0),.int .i64 ((rd_T108 l0 x4_1).f1),.int .i64 ((rd_T108 l0 x4_1).f2),.bool ((rd_T108 l0 x4_1).f3)]] rfl (by (try simp only [lM,lC,lN]);first|done|rfl|(simp only [lD,lT];rfl)) ?_;(with_reducible refine (laws_toTask.calls ((rd_T108 l0 x4_1).f0) ((rd_T108 l0 x4_1).f1) ((rd_T108 l0 x4_1).f2) ((rd_T108 l0 x4_1).f3) t138 t139 t140 t141 _ A8.out).mono ?_);rintro e w11 ⟨rfl,hb⟩;refine ⟨_,rfl,?_⟩;have n0_:=Am (rB (rL Ba.out) hb);have n1_:=Am (bP (by repeat (first|(with_reducible first|exact HB.out|apply oA|apply pN|apply o1)|exact HB.out)) hb);clear Ba HB;revert n0_ n1_;intro Ba HB;(try clear hb);(try clear hb2);(try clear hk);(try clear hi);have p10:0≤(x4_1:Int):=of_decide_eq_true (by first|(with_reducible assumption)|assumption);have q10:(x4_1:Int)<((x3_1.length:Int):Int):=of_decide_eq_true (by first|(with_reducible assumption)|assumption);obtain ⟨go10,co10,eo10,Bb,gl10,cl10,HG10⟩:=Kd.R_form Ba.out (by omega);(first|cases eo10|(injection eo10 with ea_ en_ ec_;(first|subst ea_|(injection ea_ with ea_;subst ea_));subst ec_;clear en_));have GB10:=Am Bb;have GG10:=Am HG10;clear Bb gl10 HG10;obtain ⟨ce10,hcl10,hM10,hcc10,hfr10⟩:=Kd.R_elem Ba.out z86 (x4_1:Int) p10 q10;obtain rfl:=k86_openM hM10;have hx10_0:w11.cell? ⟨go10,(x4_1:Int).toNat * 4,none⟩=some (.int .i64 ((rd_T86 x3_1 x4_1).f0)):=hcc10 0 _ rfl;have hx10_1:w11.cell? ⟨go10,(x4_1:Int).toNat * 4 + 1,none⟩=some (.int .i64 ((rd_T86 x3_1 x4_1).f1)):=hcc10 1 _ rfl;have hx10_2:w11.cell? ⟨go10,(x4_1:Int).toNat * 4 + 2,none⟩=some (.int .i64 ((rd_T86 x3_1 x4_1).f2)):=hcc10 2 _ rfl;have hx10_3:w11.cell? ⟨go10,(x4_1:Int).toNat * 4 + 3,none⟩=some (.bool ((rd_T86 x3_1 x4_1).f3)):=hcc10 3 _ rfl;have hf10_0:w11.frozen? ⟨go10,(x4_1:Int).toNat * 4,none⟩=false:=hfr10 0;have hf10_1:w11.frozen? ⟨go10,(x4_1:Int).toNat * 4 + 1,none⟩=false:=hfr10 1;have hf10_2:w11.frozen? ⟨go10,(x4_1:Int).toNat * 4 + 2,none⟩=false:=hfr10 2;have hf10_3:w11.frozen? ⟨go10,(x4_1:Int).toNat * 4 + 3,none⟩=false:=hfr10 3;clear hcl10 hcc10 hfr10 hM10;replace p10:=eq_true p10;replace q10:=eq_true q10;have HX12:=Am (show Kd.R k86 86 w11 w.heap.size (fun _=>True) (.slice (some ⟨go10,0,none⟩) x3_1.length co10) x3_1 from (rL Ba.out));obtain ⟨ce12,hcl12,hM12,hcc12,hfr12⟩:=Kd.R_elem HX12.out z86 (x4_1:Int) (of_decide_eq_true (by first|(with_reducible assumption)|assumption)) (by have h_:(x4_1:Int)<((x3_1.length:Int):Int):=of_decide_eq_true (by first|(with_reducible assumption)|assumption);first|exact h_|(have e_:=(Kd.R_reads' Ba.out).1;omega)|simpa using h_);obtain rfl:=k86_openM hM12;have HP12:=Kd.R_seg HX12.out (x4_1:Int) (of_decide_eq_true (by first|(with_reducible assumption)|assumption)) (by have h_:(x4_1:Int)<((x3_1.length:Int):Int):=of_decide_eq_true (by first|(with_reducible assumption)|assumption);first|exact h_|(have e_:=(Kd.R_reads' Ba.out).1;omega)|simpa using h_) (seg:=[.int .i64 t138,.int .i64 t139,.int .i64 t140,.bool t141]) (j:=0) hcl12 hcc12 (show 4≤4 from by decide) (x':=(⟨t138,t139,t140,t141⟩:S86)) (k86_mkM _ _ _ (⟨t138,t139,t140,t141⟩:S86) ) (fun _ hk=>hk);have hx12_0:=hcc12 0 _ rfl;(try simp only [show (k86).sz=4 from rfl,Nat.mul_one,Nat.add_zero] at hx12_0);have hf12_0:=hfr12 0;(try simp only [show (k86).sz=4 from rfl,Nat.mul_one,Nat.add_zero] at hf12_0);have hx12_1:=hcc12 1 _ rfl;(try simp only [show (k86).sz=4 from rfl,Nat.mul_one,Nat.add_zero] at hx12_1);have hf12_1:=hfr12 1;(try simp only [show (k86).sz=4 from rfl,Nat.mul_one,Nat.add_zero] at hf12_1);have hx12_2:=hcc12 2 _ rfl;(try simp only [show (k86).sz=4 from rfl,Nat.mul_one,Nat.add_zero] at hx12_2);have hf12_2:=hfr12 2;(try simp only [show (k86).sz=4 from rfl,Nat.mul_one,Nat.add_zero] at hf12_2);have hx12_3:=hcc12 3 _ rfl;(try simp only [show (k86).sz=4 from rfl,Nat.mul_one,Nat.add_zero] at hx12_3);have hf12_3:=hfr12 3;(try simp only [show (k86).sz=4 from rfl,Nat.mul_one,Nat.add_zero] at hf12_3);clear hcl12 hcc12 hfr12 hM12)|((with_reducible refine gate_store (t:=86) (p:=21) rfl ?_);refine store_event (t:=86) (p:=21) (v:=?vo_w13) (w1:=((((w11.setCell ⟨go10,(x4_1:Int).toNat * 4,none⟩ (.int .i64 t138)).setCell ⟨go10,(x4_1:Int).toNat * 4 + 1,none⟩ (.int .i64 t139)).setCell ⟨go10,(x4_1:Int).toNat * 4 + 2,none⟩ (.int .i64 t140)).setCell ⟨go10,(x4_1:Int).toNat * 4 + 3,none⟩ (.bool t141))) ?hg ?ho ?hn ?hr ?_;(case ho=>rfl);(case hg=>rfl);(case hn=>rfl);(case hr=>first|(go_simp;done)|(go_simp;rfl));intro w13 hw;have hg:w11.grownBy w13 (some go10):=(by rw [hw];exact HP12.2);have hp_:Kd.R k86 86 w13 w.heap.size (fun _=>True) (.slice (some ⟨go10,0,none⟩) x3_1.length co10) y142:=(by rw [hw,Ny142.out];exact HP12.1);clear HP12;have n0_:=Am (hp_);have n1_:=Am ((by rw [hw];exact bS (bS (bS (bS (HB.out) GB10.out) GB10.out) GB10.out) GB10.out:Below w.heap.size w w13));clear Ba HB;revert n0_ n1_;intro Ba HB;clear hg hw hp_))
   go_roundg k1
   case measure=>have:=HK1.out;omega
   case rel=>exact ⟨(y142),(wrap64 (x4_1 + 1)),(by first|rfl|(simp;done)|(simp [*];done)),H',⟨by have:=HK1.out;omega⟩,⟨by (with_reducible repeat (first|apply rA|apply rN|apply rD));exact Ba.out⟩,⟨by repeat (first|(with_reducible first|exact HB.out|apply oA|apply pN|apply o1)|exact HB.out)⟩⟩/-! ### laws_toQueue: function 31 -/
def laws_toQueue.f (k : Nat) (l0_0 : List (S108)) (a0_1 : Int) : Option ((List (S86)) × Int) := (laws_toTaskS.f k l0_0).bind fun t146 => (some (t146, a0_1))
theorem laws_toQueue.mono : ∀ a0 a1 k, LeO (laws_toQueue.f k a0 a1) (laws_toQueue.f (k + 1) a0 a1) := by
 intro a0 a1 k
 unfold laws_toQueue.f
 repeat' first
  |(with_reducible exact laws_toTaskS.mono _ _)
  |(with_reducible exact LeO.refl _)
  |(with_reducible exact LeO.none _)
  |(with_reducible refine LeO.ite ?_ ?_)
  |(with_reducible refine LeO.bind ?_ (fun _ => ?_))
  |exact laws_toTaskS.mono _ _
  |exact LeO.none _
  |refine LeO.ite ?_ ?_
  |refine LeO.bind ?_ (fun _ => ?_)
set_option maxHeartbeats 2000000 in
set_option maxRecDepth 100000 in
theorem laws_toQueue.calls (k:Nat) (A0_0:Option Addr) (c0_0:Nat) (l0_0:List (S108)) (a0_1:Int) (r1:List (S86)) (r2:Int) (w:World) (hr0_0:Kd.C k108 w A0_0 l0_0.length l0_0) (hc0_0:l0_0.length≤c0_0) (h:laws_toQueue.f k l0_0 a0_1=some (r1,r2)) :
  Calls Try.prog 31 #[.agg #[.slice A0_0 l0_0.length c0_0,.int .i64 a0_1]] w fun e w'=>∃ v0_:Value,e=.returned (.agg #[v0_,.int .i64 r2])∧Kd.R k86 86 w' w.heap.size (fun _=>True) v0_ r1∧Below w.heap.size w w':=by
 have hu43:=Try.underlying43
 have hu47:=Try.underlying47
 have HR0_0:=Am hr0_0
 have HC0_0:=Am hc0_0
 clear hr0_0 hc0_0
 have HB:=Am (Below.refl w.heap.size w)
 have H:((laws_toTaskS.f k l0_0).bind fun t146=>(some (t146,a0_1)))=some (r1,r2):=h
 clear h
 replace H:=oC H
 obtain ⟨t146,A20,H⟩:=H
 replace H:(some (t146,a0_1))=some (r1,r2):=H
 have A2:=Am A20
 clear A20
 simp only [Option.some.injEq,Prod.mk.injEq] at H
 obtain ⟨rfl,rfl⟩:=H
 go_enter Try.func31,Try.ntmps31
 go_wp2_with (first|((with_reducible refine gate_dst (N:=1) rfl ?_);refine box_event ?hg (N:=1) ?hd (cs:=#[.slice A0_0 l0_0.length c0_0,.int .i64 a0_1]) (t:=43) ?hr ?_;(case hd=>rfl);(case hg=>rfl);(case hr=>first|(go_simp;done)|(go_simp;rfl));intro Bb hg w3 hbox hb;have n0_:=Am (bP (by repeat (first|(with_reducible first|exact HB.out|apply oA|apply pN|apply o1)|exact HB.out)) hb);have n1_:=Am (hbox);have n2_:=Am ((by rw [hg];exact (bZ (by repeat (first|(with_reducible first|exact HB.out|apply oA|apply pN|apply o1)|exact HB.out))):w.heap.size≤Bb));have n3_:=Am ((by rw [hg];exact (bZ (by repeat (first|(with_reducible first|exact HB.out|apply oA|apply pN|apply o1)|exact HB.out))):w.heap.size≤Bb));clear HB;revert n0_ n1_ n2_ n3_;intro HB Ba BG Bf;clear hb hbox hg)|((with_reducible refine gate_dst (N:=2) rfl ?_);refine box_event ?hg (N:=2) ?hd (cs:=#[.slice none 0 0,.int .i64 0]) (t:=47) ?hr ?_;(case hd=>rfl);(case hg=>rfl);(case hr=>first|(go_simp;done)|(go_simp;rfl));intro Bc hg w4 hbox hb;have n0_:=Am (bB (g:=Bb) (o:=.cells #[.slice A0_0 l0_0.length c0_0,.int .i64 a0_1] 43 (0,0)) (bL Ba.out) hb);have n1_:=Am (bP (by repeat (first|(with_reducible first|exact HB.out|apply oA|apply pN|apply o1|refine bS ?_ Bf.out)|exact HB.out)) hb);have n2_:=Am (hbox);have n3_:=Am ((by rw [hg];exact (bZ (by repeat (first|(with_reducible first|exact HB.out|apply oA|apply pN|apply o1|refine bS ?_ Bf.out)|exact HB.out))):w.heap.size≤Bc));have n4_:=Am ((by rw [hg];exact (bZ (by repeat (first|(with_reducible first|exact HB.out|apply oA|apply pN|apply o1|refine bS ?_ Bf.out)|exact HB.out))):w.heap.size≤Bc));have n5_:=Am ((by rw [hg];exact Nat.ne_of_lt (blk_lt (g:=Bb) (o:=.cells #[.slice A0_0 l0_0.length c0_0,.int .i64 a0_1] 43 (0,0)) (bL Ba.out)):Bb≠Bc));have n6_:=Am ((by rw [hg];exact Nat.ne_of_gt (blk_lt (g:=Bb) (o:=.cells #[.slice A0_0 l0_0.length c0_0,.int .i64 a0_1] 43 (0,0)) (bL Ba.out)):Bc≠Bb));clear Ba HB;revert n0_ n1_ n2_ n3_ n4_ n5_ n6_;intro Ba HB Bd BH Bh Bk Bl;clear hb hbox hg)|((with_reducible refine gate_dst (N:=3) rfl ?_);refine box_event ?hg (N:=3) ?hd (cs:=#[.slice none 0 0,.int .i64 0]) (t:=47) ?hr ?_;(case hd=>rfl);(case hg=>rfl);(case hr=>first|(go_simp;done)|(go_simp;rfl));intro Be hg w5 hbox hb;have n0_:=Am (bB (g:=Bb) (o:=.cells #[.slice A0_0 l0_0.length c0_0,.int .i64 a0_1] 43 (0,0)) (bL Ba.out) hb);have n1_:=Am (bB (g:=Bc) (o:=.cells #[.slice none 0 0,.int .i64 0] 47 (0,0)) (bL Bd.out) hb);have n2_:=Am (bP (by repeat (first|(with_reducible first|exact HB.out|apply oA|apply pN|apply o1|refine bS ?_ Bf.out|refine bS ?_ Bh.out)|exact HB.out)) hb);have n3_:=Am (hbox);have n4_:=Am ((by rw [hg];exact (bZ (by repeat (first|(with_reducible first|exact HB.out|apply oA|apply pN|apply o1|refine bS ?_ Bf.out|refine bS ?_ Bh.out)|exact HB.out))):w.heap.size≤Be));have n5_:=Am ((by rw [hg];exact (bZ (by repeat (first|(with_reducible first|exact HB.out|apply oA|apply pN|apply o1|refine bS ?_ Bf.out|refine bS ?_ Bh.out)|exact HB.out))):w.heap.size≤Be));have n6_:=Am ((by rw [hg];exact Nat.ne_of_lt (blk_lt (g:=Bb) (o:=.cells #[.slice A0_0 l0_0.length c0_0,.int .i64 a0_1] 43 (0,0)) (bL Ba.out)):Bb≠Be));have n7_:=Am ((by rw [hg];exact Nat.ne_of_gt (blk_lt (g:=Bb) (o:=.cells #[.slice A0_0 l0_0.length c0_0,.int .i64 a0_1] 43 (0,0)) (bL Ba.out)):Be≠Bb));have n8_:=Am ((by rw [hg];exact Nat.ne_of_lt (blk_lt (g:=Bc) (o:=.cells #[.slice none 0 0,.int .i64 0] 47 (0,0)) (bL Bd.out)):Bc≠Be));have n9_:=Am ((by rw [hg];exact Nat.ne_of_gt (blk_lt (g:=Bc) (o:=.cells #[.slice none 0 0,.int .i64 0] 47 (0,0)) (bL Bd.out)):Be≠Bc));clear Ba Bd HB;revert n0_ n1_ n2_ n3_ n4_ n5_ n6_ n7_ n8_ n9_;intro Ba Bd HB Bg BI Bj Bm Bn Bi Bo;clear hb hbox hg;have BL:=Bk.out;have BM:=Bl.out;have BN:=Bm.out;have BO:=Bn.out;have BC:w5.cell? ⟨Bb,0,none⟩=some (.slice A0_0 l0_0.length c0_0):=(bC Ba.out 0).trans rfl;have BD:w5.cell? ⟨Bb,1,none⟩=some (.int .i64 a0_1):=(bC Ba.out 1).trans rfl;have BE:=bF Ba.out 0;have BF:=bF Ba.out 1)|((with_reducible refine gate_callee (f:=72) rfl ?_);refine goesL_ (some 6) rfl rfl Try.func72 (by kernel_rfl) rfl #[.slice A0_0 l0_0.length c0_0] rfl (by (try simp only [lM,lC,lN]);first|done|rfl|(simp only [lD,lT];rfl)) ?_;(with_reducible refine (laws_toTaskS.calls k _ _ l0_0 t146 _ ?side1 ?side2 A2.out).mono ?_);(case side1=>repeat (first|exact (cB HR0_0.out HB.out)|(with_reducible refine cA ?_ _)|(with_reducible refine cN ?_ _)|(with_reducible refine cD ?_)));(case side2=>exact HC0_0.out);rintro e w9 ⟨v147,rfl,ho0,hb⟩;refine ⟨_,rfl,?_⟩;have n0_:=Am (Kd.R_lower ho0 (bZ (by repeat (first|(with_reducible first|exact HB.out|apply oA|apply pN|apply o1|refine bS ?_ Bf.out|refine bS ?_ Bh.out|refine bS ?_ Bj.out)|exact HB.out))));have n1_:=Am (bB (g:=Bb) (o:=.cells #[.slice A0_0 l0_0.length c0_0,.int .i64 a0_1] 43 (0,0)) (bL Ba.out) hb);have n2_:=Am (bB (g:=Bc) (o:=.cells #[.slice none 0 0,.int .i64 0] 47 (0,0)) (bL Bd.out) hb);have n3_:=Am (bB (g:=Be) (o:=.cells #[.slice none 0 0,.int .i64 0] 47 (0,0)) (bL Bg.out) hb);have n4_:=Am (bP (by repeat (first|(with_reducible first|exact HB.out|apply oA|apply pN|apply o1|refine bS ?_ Bf.out|refine bS ?_ Bh.out|refine bS ?_ Bj.out)|exact HB.out)) hb);clear Ba Bd Bg HB;revert n0_ n1_ n2_ n3_ n4_;intro Bp Ba Bd Bg HB;(try clear hb);(try clear hb2);(try clear hk);(try clear hi);(try clear ho0);obtain ⟨Ao10,co10,eo10⟩:=Kd.R_slice Bp.out;subst eo10;have BJ:=Bo.out;have BK:=Bi.out;have Bq:w9.cell? ⟨Be,0,none⟩=some (.slice none 0 0):=(bC Bg.out 0).trans rfl;have Br:w9.cell? ⟨Be,1,none⟩=some (.int .i64 0):=(bC Bg.out 1).trans rfl;have Bs:=bF Bg.out 0;have Bt:=bF Bg.out 1;have Bu:w9.cell? ⟨Bb,0,none⟩=some (.slice A0_0 l0_0.length c0_0):=(bC Ba.out 0).trans rfl;have Bv:w9.cell? ⟨Bb,1,none⟩=some (.int .i64 a0_1):=(bC Ba.out 1).trans rfl;have Bw:=bF Ba.out 0;have Bx:=bF Ba.out 1;have By:w9.cell? ⟨Bc,0,none⟩=some (.slice none 0 0):=(bC Bd.out 0).trans rfl;have Bz:w9.cell? ⟨Bc,1,none⟩=some (.int .i64 0):=(bC Bd.out 1).trans rfl;have BA:=bF Bd.out 0;have BB:=bF Bd.out 1))
 refine bodyPost_ret (results_cell_row rfl _ _ Bc 47 #[.slice Ao10 t146.length co10,.int .i64 a0_1] (0,0) _ rfl (by (with_reducible repeat (first|refine bN ?_ _|refine bD ?_|refine bA ?_ _));refine blk_put (cs:=#[.slice Ao10 t146.length co10,.int .i64 0]) ?_ 1 _ rfl;(with_reducible repeat (first|refine bN ?_ _|refine bD ?_|refine bA ?_ _));refine blk_put (cs:=#[.slice none 0 0,.int .i64 0]) ?_ 0 _ rfl;(with_reducible repeat (first|refine bN ?_ _|refine bD ?_|refine bA ?_ _|refine blk_far ?_ Bi.out _));exact Bd.out) Try.underlying47 rfl (by kernel_rfl)) rfl ?_
 exact ⟨_,by first|rfl|(simp [errW_none,errW_some] <;> rfl)|(simp [*,errW_none,errW_some] <;> rfl),by (with_reducible repeat (first|apply rA|apply rN|apply rD));exact rM (rF (p:=⟨Bc,1,none⟩) (rF (p:=⟨Bc,0,none⟩) (rF (p:=⟨Be,1,none⟩) (rF (p:=⟨Be,0,none⟩) (rT (rT Bp.out Bg.out (by decide)) Bd.out (by decide)) (fun _ hk=>hk.1.2) (.slice Ao10 t146.length co10)) (fun _ hk=>hk.1.2) (.int .i64 a0_1)) (fun _ hk=>hk.2) (.slice Ao10 t146.length co10)) (fun _ hk=>hk.2) (.int .i64 a0_1)) (fun _ hk=>trivial),by repeat (first|(with_reducible first|exact HB.out|apply oA|apply pN|apply o1|refine bS ?_ Bf.out|refine bS ?_ Bh.out|refine bS ?_ Bj.out)|exact HB.out)⟩

-- NOT PRINTED: function 101 (impl_Task_101)

/-! ### impl_Queue_at: function 73 -/
set_option maxRecDepth 100000 in
theorem impl_Queue_at.pred (x : S86) (id : Int) (pg : Nat) (w : World) (hc : w.heap[pg]? = some (.cells #[.int .i64 id] 3 (0, 0))) :
 Calls Try.prog 102 #[.agg #[.int .i64 x.f0, .int .i64 x.f1, .int .i64 x.f2, .bool x.f3], .pointer (some ⟨pg, 0, none⟩)] w fun e w' => e = .returned (.bool (x.f0 == id)) ∧ Below w.heap.size w w' := by
 have hu86 := Try.underlying86
 have HP := Am hc
 clear hc
 have HB := Am (Below.refl w.heap.size w)
 go_enter Try.func102, Try.ntmps102
 go_wp2_with (first|((with_reducible refine gate_dst (N := 2) rfl ?_);refine box_event ?hg (N := 2) ?hd (cs := #[.int .i64 x.f0, .int .i64 x.f1, .int .i64 x.f2, .bool x.f3]) (t := 86) ?hr ?_;(case hd => rfl);(case hg => rfl);(case hr => first|(go_simp;done)|(go_simp;rfl));intro gb hg w2 hbox hb;have n0_ := Am (bB (g := pg) (o := .cells #[.int .i64 id] 3 (0, 0)) HP.out hb);have n1_ := Am hb;have n2_ := Am hbox;clear HP HB hb hbox hg;have hcz : w2.cell? ⟨gb, 0, none⟩ = some (.int .i64 x.f0) := (bC n2_.out 0).trans rfl;have hpz : w2.cell? ⟨pg, 0, none⟩ = some (.int .i64 id) := (bC n0_.out 0).trans rfl))
 go_ret
 exact ⟨rfl, n1_.out⟩

def impl_Queue_at.idx (l : List S86) (id : Int) : Nat → Nat → Int
|0, _ => -1
|d + 1, i => if (rd_T86 l (i : Int)).f0 = id then (i : Int) else impl_Queue_at.idx l id d (i + 1)
set_option maxHeartbeats 2000000 in
set_option maxRecDepth 100000 in
theorem impl_Queue_at.index (A : Option Addr) (c : Nat) (l : List S86) (id : Int) (pg : Nat) (w : World) (hr : Kd.C k86 w A l.length l) (hc : w.heap[pg]? = some (.cells #[.int .i64 id] 3 (0, 0))) :
 Calls Try.prog 101 #[.slice A l.length c, .func (.func 102) #[] #[.pointer (some ⟨pg, 0, none⟩)]] w fun e w' => e = .returned (.int .i64 (impl_Queue_at.idx l id l.length 0)) ∧ Below w.heap.size w w' := by
 have hu86 := Try.underlying86
 have HR := Am hr
 have HP := Am hc
 have hmax := (show l.length ≤ 9223372036854775807 from hr.2.1)
 clear hc hr
 have HB := Am (Below.refl w.heap.size w)
 go_enter Try.func101, Try.ntmps101
 go_wp2
 go_loopg [5, 8] l.length (fun kq v5 v8 w' => ∃ x : Int, v8 = .int .i64 x ∧ Aside0 (0 ≤ x) ∧ Aside0 (x ≤ l.length) ∧ Aside0 (l.length - x.toNat ≤ kq) ∧ Aside0 (Below w.heap.size w w') ∧ Aside0 (impl_Queue_at.idx l id l.length 0 = impl_Queue_at.idx l id (l.length - x.toNat) x.toNat))
 case atStart => exact ⟨0, rfl, ⟨by omega⟩, ⟨by omega⟩, ⟨by omega⟩, HB, ⟨rfl⟩⟩
 case round =>
  obtain ⟨x, rfl, H0, H1, H2, BW, A1⟩ := hrel
  have Hm := Am hmax
  clear hmax
  by_cases hlt : x < (l.length : Int)
  rotate_left
  ·have c1 : decide (x < (l.length : Int)) = false := decide_eq_false hlt
   have hx : x.toNat = l.length := by have := H0.out;have := H1.out;omega
   have A2 : impl_Queue_at.idx l id l.length 0 = -1 := by rw [A1.out, hx, Nat.sub_self];rfl
   have A3 := Am A2
   clear A2 A1 hx hlt
   go_wp2
   go_ret
   exact ⟨by rw [A3.out];rfl, BW.out⟩
  have e1 : Aside0 (impl_Queue_at.idx l id (l.length - x.toNat) x.toNat = if (rd_T86 l x).f0 = id then x else impl_Queue_at.idx l id (l.length - (x.toNat + 1)) (x.toNat + 1)) := by
   have := H0.out
   refine ⟨?_⟩
   rw [show l.length - x.toNat = (l.length - (x.toNat + 1)) + 1 from by omega, impl_Queue_at.idx, show ((x.toNat : Nat) : Int) = x from by omega]
  obtain ⟨ad, e, hx0, hx1, hx2, hx3⟩ := at_T86 (cB HR.out BW.out) x H0.out hlt
  cases e
  have hp : Aside0 (wr.heap[pg]? = some (.cells #[.int .i64 id] 3 (0, 0))) := ⟨bB HP.out BW.out⟩
  have hcall := Am (impl_Queue_at.pred (rd_T86 l x) id pg wr hp.out)
  have c1 : decide (x < (l.length : Int)) = true := decide_eq_true hlt
  have c2 : decide (0 ≤ x) = true := decide_eq_true H0.out
  have p1 := eq_true H0.out
  have p2 := eq_true hlt
  clear hlt
  by_cases q : (rd_T86 l x).f0 = id
  ·have e2 := Am (show impl_Queue_at.idx l id l.length 0 = x by rw [A1.out, e1.out, if_pos q])
   rw [beq_iff_eq.mpr q] at hcall
   clear q e1 A1
   repeat go_step
   refine hcall.out.mono ?_
   rintro e w' ⟨rfl, hb'⟩
   have hb2 := Am (bP BW.out hb')
   clear hcall hb' BW
   go_wp2
   go_ret
   exact ⟨by rw [e2.out];rfl, hb2.out⟩
  have e2 := Am (show impl_Queue_at.idx l id l.length 0 = impl_Queue_at.idx l id (l.length - (x.toNat + 1)) (x.toNat + 1) by rw [A1.out, e1.out, if_neg q])
  rw [beq_eq_false_iff_ne.mpr q] at hcall
  have H3 := Am (of_decide_eq_true c1)
  clear q e1 A1
  repeat go_step
  refine hcall.out.mono ?_
  rintro e w' ⟨rfl, hb'⟩
  have hb2 := Am (bP BW.out hb')
  clear hcall hb' BW
  go_wp2
  go_roundg (l.length - (x.toNat + 1))
  case measure => have := H0.out;have := H2.out;have := H3.out;omega
  case rel =>
   have h0 := H0.out
   have h3 := H3.out
   have h4 := Hm.out
   have hw : wrap64 (x + 1) = x + 1 := by unfold wrap64;omega
   refine ⟨wrap64 (x + 1), (by first|rfl|(simp;done)|(simp [*];done)), ⟨by omega⟩, ⟨by omega⟩, ⟨by omega⟩, hb2, ⟨?_⟩⟩
   rw [e2.out, hw, show (x + 1).toNat = x.toNat + 1 from by omega]
def impl_Queue_at.f (l0_0 : List (S86)) (a0_1 : Int) (a1 : Int) : Option (Int) := some (impl_Queue_at.idx l0_0 a1 l0_0.length 0)
set_option maxHeartbeats 2000000 in
set_option maxRecDepth 100000 in
theorem impl_Queue_at.calls (A0_0:Option Addr) (c0_0:Nat) (l0_0:List (S86)) (a0_1:Int) (a1:Int) (r:Int) (w:World) (hr0_0:Kd.C k86 w A0_0 l0_0.length l0_0) (hc0_0:l0_0.length≤c0_0) (h:impl_Queue_at.f l0_0 a0_1 a1=some r) :
 Calls Try.prog 73 #[.agg #[.slice A0_0 l0_0.length c0_0,.int .i64 a0_1],.int .i64 a1] w fun e w'=>e=.returned (.int .i64 r)∧Below w.heap.size w w':=by
 have hu47:=Try.underlying47
 have HR:=Am hr0_0
 obtain rfl:=Option.some.inj h
 clear h hr0_0
 have HB:=Am (Below.refl w.heap.size w)
 go_enter Try.func73,Try.ntmps73
 go_upto_region 1 with (first|((with_reducible refine gate_dst (N:=2) rfl ?_);refine box_event ?hg (N:=2) ?hd (cs:=#[.slice A0_0 l0_0.length c0_0,.int .i64 a0_1]) (t:=47) ?hr ?_;(case hd=>rfl);(case hg=>rfl);(case hr=>first|(go_simp;done)|(go_simp;rfl));intro g1 hg w2 hbox hb;have n1_:=Am (bP HB.out hb);have n2_:=Am hbox;clear HB hb hbox hg;have hcz:w2.cell? ⟨g1,0,none⟩=some (.slice A0_0 l0_0.length c0_0):=(bC n2_.out 0).trans rfl)|((with_reducible refine gate_dst (N:=3) rfl ?_);refine box_event ?hg (N:=3) ?hd (cs:=#[.int .i64 a1]) (t:=3) ?hr ?_;(case hd=>rfl);(case hg=>rfl);(case hr=>first|(go_simp;done)|(go_simp;rfl));intro g2 hg w3 hbox hb;have n3_:=Am (bP n1_.out hb);have n4_:=Am (bB n2_.out hb);have n5_:=Am hbox;clear n1_ n2_ hb hbox hg hcz;have hcz:w3.cell? ⟨g1,0,none⟩=some (.slice A0_0 l0_0.length c0_0):=(bC n4_.out 0).trans rfl))
 have hcall:=Am (impl_Queue_at.index A0_0 c0_0 l0_0 a1 g2 w3 (cB HR.out n3_.out) n5_.out)
 repeat go_step
 refine hcall.out.mono ?_
 rintro e w' ⟨rfl,hb'⟩
 have hb2:=Am (bP n3_.out hb')
 clear hcall hb'
 go_wp2
 go_ret
 exact ⟨rfl,hb2.out⟩

/-! ### impl_in: function 67 -/
def impl_in.f (a0 : Int) (a1 : Int) (a2 : Int) : Option (Bool) := if a0 ≥ a1 then (some (decide (a0 ≤ a2))) else (some false)
set_option maxHeartbeats 2000000 in
set_option maxRecDepth 100000 in
theorem impl_in.calls (a0:Int) (a1:Int) (a2:Int) (r:Bool) (w:World) (h:impl_in.f a0 a1 a2=some r) :
  Calls Try.prog 67 #[.int .i64 a0,.int .i64 a1,.int .i64 a2] w fun e w'=>e=.returned (.bool r)∧Drawn0 w w':=by
 have H:(if a0 ≥ a1 then (some (decide (a0≤a2))) else (some false))=some r:=h
 clear h
 by_cases c4:a0 ≥ a1
 ·rw [if_pos c4] at H
  have c4b0:decide (a1≤a0)=true:=decide_eq_true c4
  clear c4
  obtain rfl:=Option.some.inj H
  go_enter Try.func67,Try.ntmps67
  go_wp2
  go_ret
  exact ⟨by first|rfl|(simp;done)|(simp [*];done),by repeat (first|exact Drawn0.refl _|apply Drawn0.step)⟩
 rw [if_neg c4] at H
 have c4b0:decide (a1≤a0)=false:=decide_eq_false c4
 clear c4
 obtain rfl:=Option.some.inj H
 go_enter Try.func67,Try.ntmps67
 go_wp2
 go_ret
 exact ⟨by first|rfl|(simp;done)|(simp [*];done),by repeat (first|exact Drawn0.refl _|apply Drawn0.step)⟩

end Go.Proofs.Ytehekikjadjdaaa.PFnExactQueueSleep
