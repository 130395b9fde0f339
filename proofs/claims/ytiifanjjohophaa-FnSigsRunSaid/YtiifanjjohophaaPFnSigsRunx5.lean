/- Proved here, without a condition beyond those that each theorem states: what the Go functions named below do is what the plain functions of the same names say. Written by xprint.py, a program of this session. -/
import Derived.Test.YtiifanjjohophaaPFnSigsRunx0
namespace Go.Proofs.Ytiifanjjohophaa.PFnSigsRun
open Go.RowKit Go.Proofs.YtiifanjjohophaaW.PrintWords Go.Proofs.YtiifanjjohophaaW.PrintLast Go.Proofs.YtiifanjjohophaaW.PrintMore
attribute [local go_sem] max2_int min2_int max_two min_two max_three min_three max_four min_four   -- for this text's walks alone
set_option linter.unusedVariables false
set_option linter.unusedSimpArgs false

attribute [local go_sem ↓] isSome_setCell_
/-! ### spec_SigsNew: function 15 -/
def spec_SigsNew.f  : Option (List Bool × List Bool × List Int) := if 8 ≤ 281474976710656 then (if 8 ≤ 35184372088832 then (some ((List.replicate 8 false), (List.replicate 8 false), (List.replicate 8 0))) else (none)) else (none)
set_option maxHeartbeats 2000000 in
set_option maxRecDepth 100000 in
theorem spec_SigsNew.calls  (r1:List Bool) (r2:List Bool) (r3:List Int) (w:World) (h:spec_SigsNew.f =some (r1,r2,r3)) :
  Calls Try.prog 15 #[] w fun e w'=>∃ v0_ v1_ v2_:Value,e=.returned (.agg #[v0_,v1_,v2_])∧Kd.R Kd.bool 4 w' w.heap.size (fun k_=>some k_≠(v1_:Value).ownBlock) v0_ r1∧Kd.R Kd.bool 4 w' w.heap.size (fun k_=>some k_≠(v0_:Value).ownBlock) v1_ r2∧Kd.R (Kd.int .i64) 3 w' w.heap.size (fun _=>True) v2_ r3∧Below w.heap.size w w':=by
 have hu26:=Try.underlying26
 have HB:=Am (bJ w.heap.size w)
 have H:(if 8≤281474976710656 then (if 8≤35184372088832 then (some ((List.replicate 8 false),(List.replicate 8 false),(List.replicate 8 0))) else (none)) else (none))=some (r1,r2,r3):=h
 clear h
 by_cases c1:8≤281474976710656
 rotate_left
 ·rw [if_neg c1] at H
  exact absurd H (by simp)

 rw [if_pos c1] at H
 have c1b0:=eq_true c1
 have c1b1:decide (8≤281474976710656)=true:=dT c1
 clear c1
 obtain ⟨y122,hy122⟩:∃ y_:List Bool,y_=(List.replicate 8 false):=⟨_,rfl⟩
 replace H:(if 8≤35184372088832 then (some (y122,(List.replicate 8 false),(List.replicate 8 0))) else (none))=some (r1,r2,r3):=by first|(rw [hy122];with_reducible exact H)|(have H2_:=(Option.bind_some _ _).symm.trans H;rw [hy122];with_reducible exact H2_)|(have H2_:=(Option.bind_some _ _).symm.trans H;with_reducible exact H2_)|with_reducible exact H|(rw [hy122];exact H)|exact H
 have Ny122:=Am hy122
 clear hy122
 obtain ⟨y125,hy125⟩:∃ y_:List Bool,y_=(List.replicate 8 false):=⟨_,rfl⟩
 replace H:(if 8≤35184372088832 then (some (y122,y125,(List.replicate 8 0))) else (none))=some (r1,r2,r3):=by first|(rw [hy125];with_reducible exact H)|(have H2_:=(Option.bind_some _ _).symm.trans H;rw [hy125];with_reducible exact H2_)|(have H2_:=(Option.bind_some _ _).symm.trans H;with_reducible exact H2_)|with_reducible exact H|(rw [hy125];exact H)|exact H
 have Ny125:=Am hy125
 clear hy125
 by_cases c2:8≤35184372088832
 rotate_left
 ·rw [if_neg c2] at H
  exact absurd H (by simp)
 rw [if_pos c2] at H
 have c2b0:=eq_true c2
 have c2b1:decide (8≤35184372088832)=true:=dT c2
 clear c2
 obtain ⟨y128,hy128⟩:∃ y_:List Int,y_=(List.replicate 8 0):=⟨_,rfl⟩
 replace H:(some (y122,y125,y128))=some (r1,r2,r3):=by first|(rw [hy128];with_reducible exact H)|(have H2_:=(Option.bind_some _ _).symm.trans H;rw [hy128];with_reducible exact H2_)|(have H2_:=(Option.bind_some _ _).symm.trans H;with_reducible exact H2_)|with_reducible exact H|(rw [hy128];exact H)|exact H
 have Ny128:=Am hy128
 clear hy128
 simp only [Option.some.injEq,Prod.mk.injEq] at H
 obtain ⟨rfl,rfl,rfl⟩:=H
 go_enter Try.func15,Try.ntmps15
 try go_wp2_with (first|((with_reducible refine gD (N:=0) rfl ?_);refine bI ?hg (N:=0) ?hd (cs:=#[.slice none 0 0,.slice none 0 0,.slice none 0 0]) (t:=26) ?hr ?_;(case hd=>rfl);(case hg=>rfl);(case hr=>first|(go_simp;done)|(go_simp;rfl));intro Bb hg w3 hbox hb;have n0_:=Am (bP (by repeat (first|(with_reducible first|exact HB.out|apply oA|apply pN|apply o1)|exact HB.out)) hb);have n1_:=Am (hbox);have n2_:=Am ((by rw [hg];exact (bZ (by repeat (first|(with_reducible first|exact HB.out|apply oA|apply pN|apply o1)|exact HB.out))):w.heap.size≤Bb));have n3_:=Am ((by rw [hg];exact (bZ (by repeat (first|(with_reducible first|exact HB.out|apply oA|apply pN|apply o1)|exact HB.out))):w.heap.size≤Bb));clear HB;revert n0_ n1_ n2_ n3_;intro HB Ba Bg Bc;clear hb hbox hg))
 have n0_:=Am (bD Ba.out)
 have n1_:=Am (o1 HB.out)
 clear Ba
 clear HB
 have Ba:=n0_
 have HB:=n1_
 clear n0_ n1_
 refine start_ (n:=5) (S:=fun w'=>True) (ds:=[]) #[false,false,false,false,false] (by kernel_rfl) rfl rfl trivial (fun hHeld=>?_)
 generalize w3.drew=w4 at Ba HB hHeld ⊢
 refine join_ (σ:=Value × Value × Value) 2 #[true,true,true,false,false] (fun s_=>[(1,s_.1),(2,s_.2.1),(3,s_.2.2)]) (fun s_ w'=>(Kd.R Kd.bool 4 w' w.heap.size (fun k_=>some k_≠(s_.2.1:Value).ownBlock) s_.1 y122)∧(Kd.R Kd.bool 4 w' w.heap.size (fun k_=>some k_≠(s_.1:Value).ownBlock) s_.2.1 y125)∧(Kd.R (Kd.int .i64) 3 w' w.heap.size (fun _=>True) s_.2.2 y128)∧(w'.heap[Bb]?=some (.cells #[.slice none 0 0,.slice none 0 0,.slice none 0 0] 26 (0,0)))∧(Below w.heap.size w w')) ?_ ?_
 rotate_left
 ·intro hJ0_1_2
  refine join_ (σ:=Value × Value) 3 #[true,true,false,false,false] (fun s_=>[(1,s_.1),(2,s_.2)]) (fun s_ w'=>(Kd.R Kd.bool 4 w' w.heap.size (fun k_=>some k_≠(s_.2:Value).ownBlock) s_.1 y122)∧(Kd.R Kd.bool 4 w' w.heap.size (fun k_=>some k_≠(s_.1:Value).ownBlock) s_.2 y125)∧(w'.heap[Bb]?=some (.cells #[.slice none 0 0,.slice none 0 0,.slice none 0 0] 26 (0,0)))∧(Below w.heap.size w w')) ?_ ?_
  rotate_left
  ·intro hJ0_1
   refine join_ (σ:=Value × Value) 3 #[true,false,true,false,false] (fun s_=>[(1,s_.1),(3,s_.2)]) (fun s_ w'=>(Kd.R Kd.bool 4 w' w.heap.size (fun _=>True) s_.1 y122)∧(Kd.R (Kd.int .i64) 3 w' w.heap.size (fun _=>True) s_.2 y128)∧(w'.heap[Bb]?=some (.cells #[.slice none 0 0,.slice none 0 0,.slice none 0 0] 26 (0,0)))∧(Below w.heap.size w w')) ?_ ?_
   rotate_left
   ·intro hJ0_2
    refine join_ (σ:=Value × Value) 3 #[false,true,true,false,false] (fun s_=>[(2,s_.1),(3,s_.2)]) (fun s_ w'=>(Kd.R Kd.bool 4 w' w.heap.size (fun _=>True) s_.1 y125)∧(Kd.R (Kd.int .i64) 3 w' w.heap.size (fun _=>True) s_.2 y128)∧(w'.heap[Bb]?=some (.cells #[.slice none 0 0,.slice none 0 0,.slice none 0 0] 26 (0,0)))∧(Below w.heap.size w w')) ?_ ?_
    rotate_left
    ·intro hJ1_2
     refine join_ (σ:=Value) 4 #[true,false,false,false,false] (fun s_=>[(1,s_)]) (fun s_ w'=>(Kd.R Kd.bool 4 w' w.heap.size (fun _=>True) s_ y122)∧(w'.heap[Bb]?=some (.cells #[.slice none 0 0,.slice none 0 0,.slice none 0 0] 26 (0,0)))∧(Below w.heap.size w w')) ?_ ?_
     rotate_left
     ·intro hJ0
      refine join_ (σ:=Value) 4 #[false,true,false,false,false] (fun s_=>[(2,s_)]) (fun s_ w'=>(Kd.R Kd.bool 4 w' w.heap.size (fun _=>True) s_ y125)∧(w'.heap[Bb]?=some (.cells #[.slice none 0 0,.slice none 0 0,.slice none 0 0] 26 (0,0)))∧(Below w.heap.size w w')) ?_ ?_
      rotate_left
      ·intro hJ1
       refine join_ (σ:=Value) 4 #[false,false,true,false,false] (fun s_=>[(3,s_)]) (fun s_ w'=>(Kd.R (Kd.int .i64) 3 w' w.heap.size (fun _=>True) s_ y128)∧(w'.heap[Bb]?=some (.cells #[.slice none 0 0,.slice none 0 0,.slice none 0 0] 26 (0,0)))∧(Below w.heap.size w w')) ?_ ?_
       rotate_left
       ·intro hJ2
        refine three_ (i:=0) (j:=1) (k:=2) (Ni:=some 1) (Nj:=some 2) (Nk:=some 3) #[true,false,false,false,false] #[false,true,false,false,false] #[false,false,true,false,false] rfl rfl rfl rfl rfl rfl (by kernel_rfl) (by decide) (by decide) (by decide) (fun K hK=>?_) (fun K hK=>?_) (fun K hK=>?_)
        ·skip
         refine Kd.R_make_step Kd.bool _ 4 (by rfl) (N:=1) rfl 23 _ _ rfl 8 rfl rfl Try.underlying23 (.bool false) 1 info4 rfl (by decide) (by omega) false (ok:=fun _=>True) (okp:=fun _=>True) rfl (fun _ hk=>hk) trivial (by omega) (by omega) (bJ _ _) (nR _) ?_
         intro v123 w5 ho6 hb hg_ hnew_
         clear hg_ hnew_
         (first|rw [← Ny122.out] at ho6|(simp only [Int.reduceToNat] at ho6;rw [← Ny122.out] at ho6))
         have n0_:=Am (rW ho6 (bZ (by repeat (first|(with_reducible first|exact HB.out|apply oA|apply pN|apply o1|refine bS ?_ Bc.out)|exact HB.out))))
         have n1_:=Am (bX Ba.out hb)
         have n2_:=Am (bP (by repeat (first|(with_reducible first|exact HB.out|apply oA|apply pN|apply o1|refine bS ?_ Bc.out)|exact HB.out)) hb)
         clear Ba
         clear HB
         have Bd:=n0_
         have Ba:=n1_
         have HB:=n2_
         clear n0_ n1_ n2_
         clear hb ho6
         refine hK.out _ _ trivial (fun hHeld=>?_)
         clear hK K
         refine norm_ (by show Act.put _ (some 1) _=_;simp only [Act.put,lA,lZ,lS,iw,jw];rfl) ?_
         exact norm_ (by first|(simp only [putAll,Act.put,lA,lZ,lS];done)|(simp only [putAll,Act.put,lA,lZ,lS];rfl)) (hJ0 (v123) _ ⟨(rL Bd.out),(bL Ba.out),(by repeat (first|(with_reducible first|exact HB.out|apply oA|apply pN|apply o1|refine bS ?_ Bc.out)|exact HB.out))⟩)
        ·skip
         refine Kd.R_make_step Kd.bool _ 4 (by rfl) (N:=2) rfl 23 _ _ rfl 8 rfl rfl Try.underlying23 (.bool false) 1 info4 rfl (by decide) (by omega) false (ok:=fun _=>True) (okp:=fun _=>True) rfl (fun _ hk=>hk) trivial (by omega) (by omega) (bJ _ _) (nR _) ?_
         intro v126 w5 ho6 hb hg_ hnew_
         clear hg_ hnew_
         (first|rw [← Ny125.out] at ho6|(simp only [Int.reduceToNat] at ho6;rw [← Ny125.out] at ho6))
         have n0_:=Am (rW ho6 (bZ (by repeat (first|(with_reducible first|exact HB.out|apply oA|apply pN|apply o1|refine bS ?_ Bc.out)|exact HB.out))))
         have n1_:=Am (bX Ba.out hb)
         have n2_:=Am (bP (by repeat (first|(with_reducible first|exact HB.out|apply oA|apply pN|apply o1|refine bS ?_ Bc.out)|exact HB.out)) hb)
         clear Ba
         clear HB
         have Be:=n0_
         have Ba:=n1_
         have HB:=n2_
         clear n0_ n1_ n2_
         clear hb ho6
         refine hK.out _ _ trivial (fun hHeld=>?_)
         clear hK K
         refine norm_ (by show Act.put _ (some 2) _=_;simp only [Act.put,lA,lZ,lS,iw,jw];rfl) ?_
         exact norm_ (by first|(simp only [putAll,Act.put,lA,lZ,lS];done)|(simp only [putAll,Act.put,lA,lZ,lS];rfl)) (hJ1 (v126) _ ⟨(rL Be.out),(bL Ba.out),(by repeat (first|(with_reducible first|exact HB.out|apply oA|apply pN|apply o1|refine bS ?_ Bc.out)|exact HB.out))⟩)
        ·skip
         refine Kd.R_make_step (Kd.int .i64) _ 3 (by rfl) (N:=3) rfl 24 _ _ rfl 8 rfl rfl Try.underlying24 (.int .i64 0) 8 info3 rfl (by decide) (by omega) 0 (ok:=fun _=>True) (okp:=fun _=>True) rfl (fun _ hk=>hk) trivial (by omega) (by omega) (bJ _ _) (nR _) ?_
         intro v129 w5 ho6 hb hg_ hnew_
         clear hg_ hnew_
         (first|rw [← Ny128.out] at ho6|(simp only [Int.reduceToNat] at ho6;rw [← Ny128.out] at ho6))
         have n0_:=Am (rW ho6 (bZ (by repeat (first|(with_reducible first|exact HB.out|apply oA|apply pN|apply o1|refine bS ?_ Bc.out)|exact HB.out))))
         have n1_:=Am (bX Ba.out hb)
         have n2_:=Am (bP (by repeat (first|(with_reducible first|exact HB.out|apply oA|apply pN|apply o1|refine bS ?_ Bc.out)|exact HB.out)) hb)
         clear Ba
         clear HB
         have Bf:=n0_
         have Ba:=n1_
         have HB:=n2_
         clear n0_ n1_ n2_
         clear hb ho6
         refine hK.out _ _ trivial (fun hHeld=>?_)
         clear hK K
         refine norm_ (by show Act.put _ (some 3) _=_;simp only [Act.put,lA,lZ,lS,iw,jw];rfl) ?_
         exact norm_ (by first|(simp only [putAll,Act.put,lA,lZ,lS];done)|(simp only [putAll,Act.put,lA,lZ,lS];rfl)) (hJ2 (v129) _ ⟨(rL Bf.out),(bL Ba.out),(by repeat (first|(with_reducible first|exact HB.out|apply oA|apply pN|apply o1|refine bS ?_ Bc.out)|exact HB.out))⟩)
       ·skip
        rintro v129 w7 ⟨h0_,h1_,h2_⟩
        have n0_:Aside0 (Kd.R (Kd.int .i64) 3 w7 w.heap.size (fun _=>True) v129 y128):=⟨h0_⟩
        have n1_:Aside0 (w7.heap[Bb]?=some (.cells #[.slice none 0 0,.slice none 0 0,.slice none 0 0] 26 (0,0))):=⟨h1_⟩
        have n2_:Aside0 (Below w.heap.size w w7):=⟨h2_⟩
        clear Ba
        clear HB
        clear h0_ h1_ h2_
        have Bf:=n0_
        have Ba:=n1_
        have HB:=n2_
        clear n0_ n1_ n2_
        have hHeld:=trivial
        refine norm_ (by simp only [putAll,Act.put,lA,lZ,lS];rfl) ?_
        refine two_ (i:=0) (j:=1) (Ni:=some 1) (Nj:=some 2) #[true,false,true,false,false] #[false,true,true,false,false] rfl rfl rfl rfl (by kernel_rfl) (by decide) (by decide) (fun K hK=>?_) (fun K hK=>?_)
        ·skip
         refine Kd.R_make_step Kd.bool _ 4 (by rfl) (N:=1) rfl 23 _ _ rfl 8 rfl rfl Try.underlying23 (.bool false) 1 info4 rfl (by decide) (by omega) false (ok:=fun _=>True) (okp:=fun _=>True) rfl (fun _ hk=>hk) trivial (by omega) (by omega) (bJ _ _) (nR _) ?_
         intro v123 w8 ho9 hb hg_ hnew_
         clear hg_ hnew_
         (first|rw [← Ny122.out] at ho9|(simp only [Int.reduceToNat] at ho9;rw [← Ny122.out] at ho9))
         have n0_:=Am (rB (rL Bf.out) hb)
         have n1_:=Am (rW ho9 (bZ (by repeat (first|(with_reducible first|exact HB.out|apply oA|apply pN|apply o1|refine bS ?_ Bc.out)|exact HB.out))))
         have n2_:=Am (bX Ba.out hb)
         have n3_:=Am (bP (by repeat (first|(with_reducible first|exact HB.out|apply oA|apply pN|apply o1|refine bS ?_ Bc.out)|exact HB.out)) hb)
         clear Bf
         clear Ba
         clear HB
         have Bf:=n0_
         have Bd:=n1_
         have Ba:=n2_
         have HB:=n3_
         clear n0_ n1_ n2_ n3_
         clear hb ho9
         refine hK.out _ _ trivial (fun hHeld=>?_)
         clear hK K
         refine norm_ (by show Act.put _ (some 1) _=_;simp only [Act.put,lA,lZ,lS,iw,jw];rfl) ?_
         exact norm_ (by first|(simp only [putAll,Act.put,lA,lZ,lS];done)|(simp only [putAll,Act.put,lA,lZ,lS];rfl)) (hJ0_2 (v123,v129) _ ⟨(rL Bd.out),(rL Bf.out),(bL Ba.out),(by repeat (first|(with_reducible first|exact HB.out|apply oA|apply pN|apply o1|refine bS ?_ Bc.out)|exact HB.out))⟩)
        ·skip
         refine Kd.R_make_step Kd.bool _ 4 (by rfl) (N:=2) rfl 23 _ _ rfl 8 rfl rfl Try.underlying23 (.bool false) 1 info4 rfl (by decide) (by omega) false (ok:=fun _=>True) (okp:=fun _=>True) rfl (fun _ hk=>hk) trivial (by omega) (by omega) (bJ _ _) (nR _) ?_
         intro v126 w8 ho9 hb hg_ hnew_
         clear hg_ hnew_
         (first|rw [← Ny125.out] at ho9|(simp only [Int.reduceToNat] at ho9;rw [← Ny125.out] at ho9))
         have n0_:=Am (rB (rL Bf.out) hb)
         have n1_:=Am (rW ho9 (bZ (by repeat (first|(with_reducible first|exact HB.out|apply oA|apply pN|apply o1|refine bS ?_ Bc.out)|exact HB.out))))
         have n2_:=Am (bX Ba.out hb)
         have n3_:=Am (bP (by repeat (first|(with_reducible first|exact HB.out|apply oA|apply pN|apply o1|refine bS ?_ Bc.out)|exact HB.out)) hb)
         clear Bf
         clear Ba
         clear HB
         have Bf:=n0_
         have Be:=n1_
         have Ba:=n2_
         have HB:=n3_
         clear n0_ n1_ n2_ n3_
         clear hb ho9
         refine hK.out _ _ trivial (fun hHeld=>?_)
         clear hK K
         refine norm_ (by show Act.put _ (some 2) _=_;simp only [Act.put,lA,lZ,lS,iw,jw];rfl) ?_
         exact norm_ (by first|(simp only [putAll,Act.put,lA,lZ,lS];done)|(simp only [putAll,Act.put,lA,lZ,lS];rfl)) (hJ1_2 (v126,v129) _ ⟨(rL Be.out),(rL Bf.out),(bL Ba.out),(by repeat (first|(with_reducible first|exact HB.out|apply oA|apply pN|apply o1|refine bS ?_ Bc.out)|exact HB.out))⟩)
      ·skip
       rintro v126 w7 ⟨h0_,h1_,h2_⟩
       have n0_:Aside0 (Kd.R Kd.bool 4 w7 w.heap.size (fun _=>True) v126 y125):=⟨h0_⟩
       have n1_:Aside0 (w7.heap[Bb]?=some (.cells #[.slice none 0 0,.slice none 0 0,.slice none 0 0] 26 (0,0))):=⟨h1_⟩
       have n2_:Aside0 (Below w.heap.size w w7):=⟨h2_⟩
       clear Ba
       clear HB
       clear h0_ h1_ h2_
       have Be:=n0_
       have Ba:=n1_
       have HB:=n2_
       clear n0_ n1_ n2_
       have hHeld:=trivial
       refine norm_ (by simp only [putAll,Act.put,lA,lZ,lS];rfl) ?_
       refine two_ (i:=0) (j:=2) (Ni:=some 1) (Nj:=some 3) #[true,true,false,false,false] #[false,true,true,false,false] rfl rfl rfl rfl (by kernel_rfl) (by decide) (by decide) (fun K hK=>?_) (fun K hK=>?_)
       ·skip
        refine Kd.R_make_step Kd.bool _ 4 (by rfl) (N:=1) rfl 23 _ _ rfl 8 rfl rfl Try.underlying23 (.bool false) 1 info4 rfl (by decide) (by omega) false (ok:=fun _=>True) (okp:=fun _=>True) rfl (fun _ hk=>hk) trivial (by omega) (by omega) (bJ _ _) (nR _) ?_
        intro v123 w8 ho9 hb hg_ hnew_
        clear hg_ hnew_
        (first|rw [← Ny122.out] at ho9|(simp only [Int.reduceToNat] at ho9;rw [← Ny122.out] at ho9))
        have n0_:=Am (rX (rL Be.out) (rZ ho9) hb)
        have n1_:=Am (rW (rQ ho9 (rI (rL Be.out))) (bZ (by repeat (first|(with_reducible first|exact HB.out|apply oA|apply pN|apply o1|refine bS ?_ Bc.out)|exact HB.out))))
        have n2_:=Am (bX Ba.out hb)
        have n3_:=Am (bP (by repeat (first|(with_reducible first|exact HB.out|apply oA|apply pN|apply o1|refine bS ?_ Bc.out)|exact HB.out)) hb)
        clear Be
        clear Ba
        clear HB
        have Be:=n0_
        have Bd:=n1_
        have Ba:=n2_
        have HB:=n3_
        clear n0_ n1_ n2_ n3_
        clear hb ho9
        refine hK.out _ _ trivial (fun hHeld=>?_)
        clear hK K
        refine norm_ (by show Act.put _ (some 1) _=_;simp only [Act.put,lA,lZ,lS,iw,jw];rfl) ?_
        exact norm_ (by first|(simp only [putAll,Act.put,lA,lZ,lS];done)|(simp only [putAll,Act.put,lA,lZ,lS];rfl)) (hJ0_1 (v123,v126) _ ⟨(by (with_reducible repeat (first|apply rA|apply rN|apply rD));exact rM Bd.out (fun _ hk=>hk.2)),(by (with_reducible repeat (first|apply rA|apply rN|apply rD));exact rM Be.out (fun _ hk=>hk.2)),(bL Ba.out),(by repeat (first|(with_reducible first|exact HB.out|apply oA|apply pN|apply o1|refine bS ?_ Bc.out)|exact HB.out))⟩)
       ·skip
        refine Kd.R_make_step (Kd.int .i64) _ 3 (by rfl) (N:=3) rfl 24 _ _ rfl 8 rfl rfl Try.underlying24 (.int .i64 0) 8 info3 rfl (by decide) (by omega) 0 (ok:=fun _=>True) (okp:=fun _=>True) rfl (fun _ hk=>hk) trivial (by omega) (by omega) (bJ _ _) (nR _) ?_
        intro v129 w8 ho9 hb hg_ hnew_
        clear hg_ hnew_
        (first|rw [← Ny128.out] at ho9|(simp only [Int.reduceToNat] at ho9;rw [← Ny128.out] at ho9))
        have n0_:=Am (rB (rL Be.out) hb)
        have n1_:=Am (rW ho9 (bZ (by repeat (first|(with_reducible first|exact HB.out|apply oA|apply pN|apply o1|refine bS ?_ Bc.out)|exact HB.out))))
        have n2_:=Am (bX Ba.out hb)
        have n3_:=Am (bP (by repeat (first|(with_reducible first|exact HB.out|apply oA|apply pN|apply o1|refine bS ?_ Bc.out)|exact HB.out)) hb)
        clear Be
        clear Ba
        clear HB
        have Be:=n0_
        have Bf:=n1_
        have Ba:=n2_
        have HB:=n3_
        clear n0_ n1_ n2_ n3_
        clear hb ho9
        refine hK.out _ _ trivial (fun hHeld=>?_)
        clear hK K
        refine norm_ (by show Act.put _ (some 3) _=_;simp only [Act.put,lA,lZ,lS,iw,jw];rfl) ?_
        exact norm_ (by first|(simp only [putAll,Act.put,lA,lZ,lS];done)|(simp only [putAll,Act.put,lA,lZ,lS];rfl)) (hJ1_2 (v126,v129) _ ⟨(rL Be.out),(rL Bf.out),(bL Ba.out),(by repeat (first|(with_reducible first|exact HB.out|apply oA|apply pN|apply o1|refine bS ?_ Bc.out)|exact HB.out))⟩)
     ·skip
      rintro v123 w7 ⟨h0_,h1_,h2_⟩
      have n0_:Aside0 (Kd.R Kd.bool 4 w7 w.heap.size (fun _=>True) v123 y122):=⟨h0_⟩
      have n1_:Aside0 (w7.heap[Bb]?=some (.cells #[.slice none 0 0,.slice none 0 0,.slice none 0 0] 26 (0,0))):=⟨h1_⟩
      have n2_:Aside0 (Below w.heap.size w w7):=⟨h2_⟩
      clear Ba
      clear HB
      clear h0_ h1_ h2_
      have Bd:=n0_
      have Ba:=n1_
      have HB:=n2_
      clear n0_ n1_ n2_
      have hHeld:=trivial
      refine norm_ (by simp only [putAll,Act.put,lA,lZ,lS];rfl) ?_
      refine two_ (i:=1) (j:=2) (Ni:=some 2) (Nj:=some 3) #[true,true,false,false,false] #[true,false,true,false,false] rfl rfl rfl rfl (by kernel_rfl) (by decide) (by decide) (fun K hK=>?_) (fun K hK=>?_)
      ·skip
       refine Kd.R_make_step Kd.bool _ 4 (by rfl) (N:=2) rfl 23 _ _ rfl 8 rfl rfl Try.underlying23 (.bool false) 1 info4 rfl (by decide) (by omega) false (ok:=fun _=>True) (okp:=fun _=>True) rfl (fun _ hk=>hk) trivial (by omega) (by omega) (bJ _ _) (nR _) ?_
       intro v126 w8 ho9 hb hg_ hnew_
       clear hg_ hnew_
       (first|rw [← Ny125.out] at ho9|(simp only [Int.reduceToNat] at ho9;rw [← Ny125.out] at ho9))
       have n0_:=Am (rX (rL Bd.out) (rZ ho9) hb)
       have n1_:=Am (rW (rQ ho9 (rI (rL Bd.out))) (bZ (by repeat (first|(with_reducible first|exact HB.out|apply oA|apply pN|apply o1|refine bS ?_ Bc.out)|exact HB.out))))
       have n2_:=Am (bX Ba.out hb)
       have n3_:=Am (bP (by repeat (first|(with_reducible first|exact HB.out|apply oA|apply pN|apply o1|refine bS ?_ Bc.out)|exact HB.out)) hb)
       clear Bd
       clear Ba
       clear HB
       have Bd:=n0_
       have Be:=n1_
       have Ba:=n2_
       have HB:=n3_
       clear n0_ n1_ n2_ n3_
       clear hb ho9
       refine hK.out _ _ trivial (fun hHeld=>?_)
       clear hK K
       refine norm_ (by show Act.put _ (some 2) _=_;simp only [Act.put,lA,lZ,lS,iw,jw];rfl) ?_
       exact norm_ (by first|(simp only [putAll,Act.put,lA,lZ,lS];done)|(simp only [putAll,Act.put,lA,lZ,lS];rfl)) (hJ0_1 (v123,v126) _ ⟨(by (with_reducible repeat (first|apply rA|apply rN|apply rD));exact rM Bd.out (fun _ hk=>hk.2)),(by (with_reducible repeat (first|apply rA|apply rN|apply rD));exact rM Be.out (fun _ hk=>hk.2)),(bL Ba.out),(by repeat (first|(with_reducible first|exact HB.out|apply oA|apply pN|apply o1|refine bS ?_ Bc.out)|exact HB.out))⟩)
      ·skip
       refine Kd.R_make_step (Kd.int .i64) _ 3 (by rfl) (N:=3) rfl 24 _ _ rfl 8 rfl rfl Try.underlying24 (.int .i64 0) 8 info3 rfl (by decide) (by omega) 0 (ok:=fun _=>True) (okp:=fun _=>True) rfl (fun _ hk=>hk) trivial (by omega) (by omega) (bJ _ _) (nR _) ?_
       intro v129 w8 ho9 hb hg_ hnew_
       clear hg_ hnew_
       (first|rw [← Ny128.out] at ho9|(simp only [Int.reduceToNat] at ho9;rw [← Ny128.out] at ho9))
       have n0_:=Am (rB (rL Bd.out) hb)
       have n1_:=Am (rW ho9 (bZ (by repeat (first|(with_reducible first|exact HB.out|apply oA|apply pN|apply o1|refine bS ?_ Bc.out)|exact HB.out))))
       have n2_:=Am (bX Ba.out hb)
       have n3_:=Am (bP (by repeat (first|(with_reducible first|exact HB.out|apply oA|apply pN|apply o1|refine bS ?_ Bc.out)|exact HB.out)) hb)
       clear Bd
       clear Ba
       clear HB
       have Bd:=n0_
       have Bf:=n1_
       have Ba:=n2_
       have HB:=n3_
       clear n0_ n1_ n2_ n3_
       clear hb ho9
       refine hK.out _ _ trivial (fun hHeld=>?_)
       clear hK K
       refine norm_ (by show Act.put _ (some 3) _=_;simp only [Act.put,lA,lZ,lS,iw,jw];rfl) ?_
       exact norm_ (by first|(simp only [putAll,Act.put,lA,lZ,lS];done)|(simp only [putAll,Act.put,lA,lZ,lS];rfl)) (hJ0_2 (v123,v129) _ ⟨(rL Bd.out),(rL Bf.out),(bL Ba.out),(by repeat (first|(with_reducible first|exact HB.out|apply oA|apply pN|apply o1|refine bS ?_ Bc.out)|exact HB.out))⟩)
    ·skip
     rintro ⟨v126,v129⟩ w9 ⟨h0_,h1_,h2_,h3_⟩
     have n0_:Aside0 (Kd.R Kd.bool 4 w9 w.heap.size (fun _=>True) v126 y125):=⟨h0_⟩
     have n1_:Aside0 (Kd.R (Kd.int .i64) 3 w9 w.heap.size (fun _=>True) v129 y128):=⟨h1_⟩
     have n2_:Aside0 (w9.heap[Bb]?=some (.cells #[.slice none 0 0,.slice none 0 0,.slice none 0 0] 26 (0,0))):=⟨h2_⟩
     have n3_:Aside0 (Below w.heap.size w w9):=⟨h3_⟩
     clear Ba
     clear HB
     clear h0_ h1_ h2_ h3_
     have Be:=n0_
     have Bf:=n1_
     have Ba:=n2_
     have HB:=n3_
     clear n0_ n1_ n2_ n3_
     have hHeld:=trivial
     refine norm_ (by simp only [putAll,Act.put,lA,lZ,lS];rfl) ?_
     refine one_ (i:=0) (N:=some 1) #[true,true,true,false,false] rfl rfl (by kernel_rfl) (by decide) (fun K hK=>?_)
     refine Kd.R_make_step Kd.bool _ 4 (by rfl) (N:=1) rfl 23 _ _ rfl 8 rfl rfl Try.underlying23 (.bool false) 1 info4 rfl (by decide) (by omega) false (ok:=fun _=>True) (okp:=fun _=>True) rfl (fun _ hk=>hk) trivial (by omega) (by omega) (bJ _ _) (nR _) ?_
     intro v123 w10 ho11 hb hg_ hnew_
     clear hg_ hnew_
     (first|rw [← Ny122.out] at ho11|(simp only [Int.reduceToNat] at ho11;rw [← Ny122.out] at ho11))
     have n0_:=Am (rX (rL Be.out) (rZ ho11) hb)
     have n1_:=Am (rB (rL Bf.out) hb)
     have n2_:=Am (rW (rQ ho11 (rI (rL Be.out))) (bZ (by repeat (first|(with_reducible first|exact HB.out|apply oA|apply pN|apply o1|refine bS ?_ Bc.out)|exact HB.out))))
     have n3_:=Am (bX Ba.out hb)
     have n4_:=Am (bP (by repeat (first|(with_reducible first|exact HB.out|apply oA|apply pN|apply o1|refine bS ?_ Bc.out)|exact HB.out)) hb)
     clear Be
     clear Bf
     clear Ba
     clear HB
     have Be:=n0_
     have Bf:=n1_
     have Bd:=n2_
     have Ba:=n3_
     have HB:=n4_
     clear n0_ n1_ n2_ n3_ n4_
     clear hb ho11
     obtain ⟨Ao12,co12,eo12⟩:=rC Bf.out
     (first|subst eo12|(injection eo12 with f1_ f2_ f3_;have f4_:=f1_.symm;have f5_:=f3_.symm;clear f1_ f2_ f3_;subst f4_;subst f5_))
     obtain ⟨Ao13,co13,eo13⟩:=rC Be.out
     (first|subst eo13|(injection eo13 with f1_ f2_ f3_;have f4_:=f1_.symm;have f5_:=f3_.symm;clear f1_ f2_ f3_;subst f4_;subst f5_))
     obtain ⟨Ao14,co14,eo14⟩:=rC Bd.out
     (first|subst eo14|(injection eo14 with f1_ f2_ f3_;have f4_:=f1_.symm;have f5_:=f3_.symm;clear f1_ f2_ f3_;subst f4_;subst f5_))
     refine hK.out _ _ trivial (fun hHeld=>?_)
     clear hK K
     refine norm_ (by show Act.put _ (some 1) _=_;simp only [Act.put,lA,lZ,lS,iw,jw];rfl) ?_
     exact norm_ (by first|(simp only [putAll,Act.put,lA,lZ,lS];done)|(simp only [putAll,Act.put,lA,lZ,lS];rfl)) (hJ0_1_2 (.slice Ao14 y122.length co14,.slice Ao13 y125.length co13,.slice Ao12 y128.length co12) _ ⟨(by (with_reducible repeat (first|apply rA|apply rN|apply rD));exact rM Bd.out (fun _ hk=>hk.2)),(by (with_reducible repeat (first|apply rA|apply rN|apply rD));exact rM Be.out (fun _ hk=>hk.2)),(rL Bf.out),(bL Ba.out),(by repeat (first|(with_reducible first|exact HB.out|apply oA|apply pN|apply o1|refine bS ?_ Bc.out)|exact HB.out))⟩)
   ·skip
    rintro ⟨v123,v129⟩ w9 ⟨h0_,h1_,h2_,h3_⟩
    have n0_:Aside0 (Kd.R Kd.bool 4 w9 w.heap.size (fun _=>True) v123 y122):=⟨h0_⟩
    have n1_:Aside0 (Kd.R (Kd.int .i64) 3 w9 w.heap.size (fun _=>True) v129 y128):=⟨h1_⟩
    have n2_:Aside0 (w9.heap[Bb]?=some (.cells #[.slice none 0 0,.slice none 0 0,.slice none 0 0] 26 (0,0))):=⟨h2_⟩
    have n3_:Aside0 (Below w.heap.size w w9):=⟨h3_⟩
    clear Ba
    clear HB
    clear h0_ h1_ h2_ h3_
    have Bd:=n0_
    have Bf:=n1_
    have Ba:=n2_
    have HB:=n3_
    clear n0_ n1_ n2_ n3_
    have hHeld:=trivial
    refine norm_ (by simp only [putAll,Act.put,lA,lZ,lS];rfl) ?_
    refine one_ (i:=1) (N:=some 2) #[true,true,true,false,false] rfl rfl (by kernel_rfl) (by decide) (fun K hK=>?_)
    refine Kd.R_make_step Kd.bool _ 4 (by rfl) (N:=2) rfl 23 _ _ rfl 8 rfl rfl Try.underlying23 (.bool false) 1 info4 rfl (by decide) (by omega) false (ok:=fun _=>True) (okp:=fun _=>True) rfl (fun _ hk=>hk) trivial (by omega) (by omega) (bJ _ _) (nR _) ?_
    intro v126 w10 ho11 hb hg_ hnew_
    clear hg_ hnew_
    (first|rw [← Ny125.out] at ho11|(simp only [Int.reduceToNat] at ho11;rw [← Ny125.out] at ho11))
    have n0_:=Am (rX (rL Bd.out) (rZ ho11) hb)
    have n1_:=Am (rB (rL Bf.out) hb)
    have n2_:=Am (rW (rQ ho11 (rI (rL Bd.out))) (bZ (by repeat (first|(with_reducible first|exact HB.out|apply oA|apply pN|apply o1|refine bS ?_ Bc.out)|exact HB.out))))
    have n3_:=Am (bX Ba.out hb)
    have n4_:=Am (bP (by repeat (first|(with_reducible first|exact HB.out|apply oA|apply pN|apply o1|refine bS ?_ Bc.out)|exact HB.out)) hb)
    clear Bd
    clear Bf
    clear Ba
    clear HB
    have Bd:=n0_
    have Bf:=n1_
    have Be:=n2_
    have Ba:=n3_
    have HB:=n4_
    clear n0_ n1_ n2_ n3_ n4_
    clear hb ho11
    obtain ⟨Ao12,co12,eo12⟩:=rC Bf.out
    (first|subst eo12|(injection eo12 with f1_ f2_ f3_;have f4_:=f1_.symm;have f5_:=f3_.symm;clear f1_ f2_ f3_;subst f4_;subst f5_))
    obtain ⟨Ao13,co13,eo13⟩:=rC Be.out
    (first|subst eo13|(injection eo13 with f1_ f2_ f3_;have f4_:=f1_.symm;have f5_:=f3_.symm;clear f1_ f2_ f3_;subst f4_;subst f5_))
    obtain ⟨Ao14,co14,eo14⟩:=rC Bd.out
    (first|subst eo14|(injection eo14 with f1_ f2_ f3_;have f4_:=f1_.symm;have f5_:=f3_.symm;clear f1_ f2_ f3_;subst f4_;subst f5_))
    refine hK.out _ _ trivial (fun hHeld=>?_)
    clear hK K
    refine norm_ (by show Act.put _ (some 2) _=_;simp only [Act.put,lA,lZ,lS,iw,jw];rfl) ?_
    exact norm_ (by first|(simp only [putAll,Act.put,lA,lZ,lS];done)|(simp only [putAll,Act.put,lA,lZ,lS];rfl)) (hJ0_1_2 (.slice Ao14 y122.length co14,.slice Ao13 y125.length co13,.slice Ao12 y128.length co12) _ ⟨(by (with_reducible repeat (first|apply rA|apply rN|apply rD));exact rM Bd.out (fun _ hk=>hk.2)),(by (with_reducible repeat (first|apply rA|apply rN|apply rD));exact rM Be.out (fun _ hk=>hk.2)),(rL Bf.out),(bL Ba.out),(by repeat (first|(with_reducible first|exact HB.out|apply oA|apply pN|apply o1|refine bS ?_ Bc.out)|exact HB.out))⟩)
  ·skip
   rintro ⟨v123,v126⟩ w9 ⟨h0_,h1_,h2_,h3_⟩
   have n0_:Aside0 (Kd.R Kd.bool 4 w9 w.heap.size (fun k_=>some k_≠(v126:Value).ownBlock) v123 y122):=⟨h0_⟩
   have n1_:Aside0 (Kd.R Kd.bool 4 w9 w.heap.size (fun k_=>some k_≠(v123:Value).ownBlock) v126 y125):=⟨h1_⟩
   have n2_:Aside0 (w9.heap[Bb]?=some (.cells #[.slice none 0 0,.slice none 0 0,.slice none 0 0] 26 (0,0))):=⟨h2_⟩
   have n3_:Aside0 (Below w.heap.size w w9):=⟨h3_⟩
   clear Ba
   clear HB
   clear h0_ h1_ h2_ h3_
   have Bd:=n0_
   have Be:=n1_
   have Ba:=n2_
   have HB:=n3_
   clear n0_ n1_ n2_ n3_
   have hHeld:=trivial
   refine norm_ (by simp only [putAll,Act.put,lA,lZ,lS];rfl) ?_
   refine one_ (i:=2) (N:=some 3) #[true,true,true,false,false] rfl rfl (by kernel_rfl) (by decide) (fun K hK=>?_)
   refine Kd.R_make_step (Kd.int .i64) _ 3 (by rfl) (N:=3) rfl 24 _ _ rfl 8 rfl rfl Try.underlying24 (.int .i64 0) 8 info3 rfl (by decide) (by omega) 0 (ok:=fun _=>True) (okp:=fun _=>True) rfl (fun _ hk=>hk) trivial (by omega) (by omega) (bJ _ _) (nR _) ?_
   intro v129 w10 ho11 hb hg_ hnew_
   clear hg_ hnew_
   (first|rw [← Ny128.out] at ho11|(simp only [Int.reduceToNat] at ho11;rw [← Ny128.out] at ho11))
   have n0_:=Am (rB (rL Bd.out) hb)
   have n1_:=Am (rB (rL Be.out) hb)
   have n2_:=Am (rW ho11 (bZ (by repeat (first|(with_reducible first|exact HB.out|apply oA|apply pN|apply o1|refine bS ?_ Bc.out)|exact HB.out))))
   have n3_:=Am (bX Ba.out hb)
   have n4_:=Am (bP (by repeat (first|(with_reducible first|exact HB.out|apply oA|apply pN|apply o1|refine bS ?_ Bc.out)|exact HB.out)) hb)
   clear Bd
   clear Be
   clear Ba
   clear HB
   have Bd:=n0_
   have Be:=n1_
   have Bf:=n2_
   have Ba:=n3_
   have HB:=n4_
   clear n0_ n1_ n2_ n3_ n4_
   clear hb ho11
   obtain ⟨Ao12,co12,eo12⟩:=rC Bf.out
   (first|subst eo12|(injection eo12 with f1_ f2_ f3_;have f4_:=f1_.symm;have f5_:=f3_.symm;clear f1_ f2_ f3_;subst f4_;subst f5_))
   obtain ⟨Ao13,co13,eo13⟩:=rC Be.out
   (first|subst eo13|(injection eo13 with f1_ f2_ f3_;have f4_:=f1_.symm;have f5_:=f3_.symm;clear f1_ f2_ f3_;subst f4_;subst f5_))
   obtain ⟨Ao14,co14,eo14⟩:=rC Bd.out
   (first|subst eo14|(injection eo14 with f1_ f2_ f3_;have f4_:=f1_.symm;have f5_:=f3_.symm;clear f1_ f2_ f3_;subst f4_;subst f5_))
   refine hK.out _ _ trivial (fun hHeld=>?_)
   clear hK K
   refine norm_ (by show Act.put _ (some 3) _=_;simp only [Act.put,lA,lZ,lS,iw,jw];rfl) ?_
   exact norm_ (by first|(simp only [putAll,Act.put,lA,lZ,lS];done)|(simp only [putAll,Act.put,lA,lZ,lS];rfl)) (hJ0_1_2 (.slice Ao14 y122.length co14,.slice Ao13 y125.length co13,.slice Ao12 y128.length co12) _ ⟨(rL Bd.out),(rL Be.out),(rL Bf.out),(bL Ba.out),(by repeat (first|(with_reducible first|exact HB.out|apply oA|apply pN|apply o1|refine bS ?_ Bc.out)|exact HB.out))⟩)
 rintro ⟨v123,v126,v129⟩ w14 ⟨h0_,h1_,h2_,h3_,h4_⟩
 have n0_:Aside0 (Kd.R Kd.bool 4 w14 w.heap.size (fun k_=>some k_≠(v126:Value).ownBlock) v123 y122):=⟨h0_⟩
 have n1_:Aside0 (Kd.R Kd.bool 4 w14 w.heap.size (fun k_=>some k_≠(v123:Value).ownBlock) v126 y125):=⟨h1_⟩
 have n2_:Aside0 (Kd.R (Kd.int .i64) 3 w14 w.heap.size (fun _=>True) v129 y128):=⟨h2_⟩
 have n3_:Aside0 (w14.heap[Bb]?=some (.cells #[.slice none 0 0,.slice none 0 0,.slice none 0 0] 26 (0,0))):=⟨h3_⟩
 have n4_:Aside0 (Below w.heap.size w w14):=⟨h4_⟩
 clear Ba
 clear HB
 clear h0_ h1_ h2_ h3_ h4_
 have Bd:=n0_
 have Be:=n1_
 have Bf:=n2_
 have Ba:=n3_
 have HB:=n4_
 clear n0_ n1_ n2_ n3_ n4_
 have hHeld:=trivial
 obtain ⟨Ao15,co15,eo15⟩:=rC Bf.out
 (first|subst eo15|(injection eo15 with f1_ f2_ f3_;have f4_:=f1_.symm;have f5_:=f3_.symm;clear f1_ f2_ f3_;subst f4_;subst f5_))
 obtain ⟨Ao16,co16,eo16⟩:=rC Be.out
 (first|subst eo16|(injection eo16 with f1_ f2_ f3_;have f4_:=f1_.symm;have f5_:=f3_.symm;clear f1_ f2_ f3_;subst f4_;subst f5_))
 obtain ⟨Ao17,co17,eo17⟩:=rC Bd.out
 (first|subst eo17|(injection eo17 with f1_ f2_ f3_;have f4_:=f1_.symm;have f5_:=f3_.symm;clear f1_ f2_ f3_;subst f4_;subst f5_))
 refine norm_ (by simp only [putAll,Act.put,lA,lZ,lS];rfl) ?_
 refine pure_ (i:=3) (N:=some 4) (v:=?_) (a':=?_) #[true,true,true,true,false] rfl rfl (by kernel_rfl) (fun _ _ _ h=>h) (Or.inl ⟨by rfl,?_⟩) ?_ ?_
 rotate_left;(intro w';go_simp;with_reducible rfl)
 rotate_left;(simp only [Act.put,lA,lZ,lS,iw,jw];rfl)
 refine one_ (i:=4) (N:=none) #[true,true,true,true,true] rfl rfl (by kernel_rfl) (by decide) (fun K hK=>?_)
 have hs18:=cz0 Ba.out
 have hfs18:=bF Ba.out 0
 have hs19:=cz1 Ba.out
 have hfs19:=bF Ba.out 1
 have hs20:=cz2 Ba.out
 have hfs20:=bF Ba.out 2
 refine skip_ (w1:=?_) (by rfl) rfl ?_ ?_
 rotate_left;(go_simp;rfl)
 refine hK.out _ _ trivial (fun hHeld=>?_)
 clear hK K
 refine done_ (by kernel_rfl) ?_
 try go_wp2
 refine bodyPost_ret (results_cell_row rfl _ _ Bb 26 #[.slice Ao17 y122.length co17,.slice Ao16 y125.length co16,.slice Ao15 y128.length co15] (0,0) _ rfl (by (with_reducible repeat (first|refine bN ?_ _|refine bD ?_|refine bA ?_ _));refine bT (cs:=#[.slice Ao17 y122.length co17,.slice Ao16 y125.length co16,.slice none 0 0]) ?_ 2 _ rfl;(with_reducible repeat (first|refine bN ?_ _|refine bD ?_|refine bA ?_ _));refine bT (cs:=#[.slice Ao17 y122.length co17,.slice none 0 0,.slice none 0 0]) ?_ 1 _ rfl;(with_reducible repeat (first|refine bN ?_ _|refine bD ?_|refine bA ?_ _));refine bT (cs:=#[.slice none 0 0,.slice none 0 0,.slice none 0 0]) ?_ 0 _ rfl;(with_reducible repeat (first|refine bN ?_ _|refine bD ?_|refine bA ?_ _));exact Ba.out) Try.underlying26 rfl (by kernel_rfl)) rfl ?_
 exact ⟨_,_,_,by first|rfl|(simp [errW_none,errW_some] <;> rfl)|(simp [*,errW_none,errW_some] <;> rfl),by (with_reducible repeat (first|apply rA|apply rN|apply rD));exact rM (rF (p:=⟨Bb,2,none⟩) (rF (p:=⟨Bb,1,none⟩) (rF (p:=⟨Bb,0,none⟩) (rT Bd.out Ba.out (by decide)) (fun _ hk=>hk.2) (.slice Ao17 y122.length co17)) (fun _ hk=>hk.2) (.slice Ao16 y125.length co16)) (fun _ hk=>hk.2) (.slice Ao15 y128.length co15)) (fun _ hk=>hk.1),by (with_reducible repeat (first|apply rA|apply rN|apply rD));exact rM (rF (p:=⟨Bb,2,none⟩) (rF (p:=⟨Bb,1,none⟩) (rF (p:=⟨Bb,0,none⟩) (rT Be.out Ba.out (by decide)) (fun _ hk=>hk.2) (.slice Ao17 y122.length co17)) (fun _ hk=>hk.2) (.slice Ao16 y125.length co16)) (fun _ hk=>hk.2) (.slice Ao15 y128.length co15)) (fun _ hk=>hk.1),by (with_reducible repeat (first|apply rA|apply rN|apply rD));exact rM (rF (p:=⟨Bb,2,none⟩) (rF (p:=⟨Bb,1,none⟩) (rF (p:=⟨Bb,0,none⟩) (rT Bf.out Ba.out (by decide)) (fun _ hk=>hk.2) (.slice Ao17 y122.length co17)) (fun _ hk=>hk.2) (.slice Ao16 y125.length co16)) (fun _ hk=>hk.2) (.slice Ao15 y128.length co15)) (fun _ hk=>trivial),by repeat (first|(with_reducible first|exact HB.out|apply oA|apply pN|apply o1|refine bS ?_ Bc.out)|exact HB.out)⟩
end Go.Proofs.Ytiifanjjohophaa.PFnSigsRun
