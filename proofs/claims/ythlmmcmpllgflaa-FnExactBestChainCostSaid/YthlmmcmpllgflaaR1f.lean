/- The law FnExactBestChainCost: for every chain the two least costs, the one of the search over nested order periods and the one of the recursion over all plans, are the same; no condition. -/
import Derived.Test.YthlmmcmpllgflaaR1e
import Derived.Test.YthlmmcmpllgflaaRows
import Derived.WalkKit
import Derived.ProofKit
import Derived.OpenShut
import Derived.ShutString
import Derived.ChangeOld
import Derived.Below
import Derived.SizedLaws
import Derived.Lib.SmallJoins
namespace Go.Proofs.Ythlmmcmpllgflaa.P
open Go.RowKit Go.Proofs.YthlmmcmpllgflaaW.PrintWords Go.Proofs.YthlmmcmpllgflaaW.PrintLast Go.Proofs.YthlmmcmpllgflaaW.PrintMore
attribute [local go_sem] max2_int min2_int max_two min_two max_three min_three max_four min_four
set_option linter.unusedVariables false
set_option linter.unusedSimpArgs false
mutual
def spec_l7Best.l0 : Nat → Int → List Int → Int → List Int → List Int → List Int → Option (Int)
 | 0, _, _, _, _, _, _ => none
 | k + 1, x3, x4, x5, x1034000, x1034001, x1034002 => if x5 ≥ 0 then (if 0 ≤ x5 then (if x5 < (x1034000.length : Int) then (if (rd x1034000 x5) = 0 then (if 0 ≤ (wrap64 (x5 + 1)) then (if (wrap64 (x5 + 1)) < (x4.length : Int) then (if x5 < (x4.length : Int) then (spec_l7Best.l0 k x3 (x4.set (x5 : Int).toNat (rd x4 (wrap64 (x5 + 1)))) (wrap64 (x5 - 1)) x1034000 x1034001 x1034002) else (none)) else (none)) else (none)) else (if x5 < (x4.length : Int) then (spec_l7Best.l1 k x3 (x4.set (x5 : Int).toNat (-1)) x5 (wrap64 (x5 + 1)) x1034000 x1034001 x1034002) else (none))) else (none)) else (none)) else (if 0 < (x4.length : Int) then (some (rd x4 0)) else (none))
def spec_l7Best.l1 : Nat → Int → List Int → Int → Int → List Int → List Int → List Int → Option (Int)
 | 0, _, _, _, _, _, _, _ => none
 | k + 1, x3, x4, x5, x6, x1034000, x1034001, x1034002 => if x6 ≤ x3 then (if 0 < (x1034001.length : Int) then ((spec_l7Give.f k x1034000 x1034001 x1034002 0 x5 x5 x6).bind fun t1043 => (if 0 ≤ x6 then (if x6 < (x4.length : Int) then (if 0 ≤ x5 then (if x5 < (x4.length : Int) then (if (rd x4 x5) < 0 then (spec_l7Best.l1 k x3 (x4.set (x5 : Int).toNat (wrap64 ((wrap64 ((rd x1034001 0) + t1043)) + (rd x4 x6)))) x5 (wrap64 (x6 + 1)) x1034000 x1034001 x1034002) else (if (wrap64 ((wrap64 ((rd x1034001 0) + t1043)) + (rd x4 x6))) < (rd x4 x5) then (spec_l7Best.l1 k x3 (x4.set (x5 : Int).toNat (wrap64 ((wrap64 ((rd x1034001 0) + t1043)) + (rd x4 x6)))) x5 (wrap64 (x6 + 1)) x1034000 x1034001 x1034002) else (spec_l7Best.l1 k x3 x4 x5 (wrap64 (x6 + 1)) x1034000 x1034001 x1034002))) else (none)) else (none)) else (none)) else (none))) else (none)) else (spec_l7Best.l0 k x3 x4 (wrap64 (x5 - 1)) x1034000 x1034001 x1034002)
end
def spec_l7Best.f (k : Nat) (l0_0 : List Int) (l0_1 : List Int) (l0_2 : List Int) : Option (Int) := if 0 ≤ (wrap64 ((l0_0.length : Int) + 1)) then (if (wrap64 ((l0_0.length : Int) + 1) : Int).toNat ≤ 35184372088832 then (spec_l7Best.l0 k (l0_0.length : Int) (List.replicate (wrap64 ((l0_0.length : Int) + 1) : Int).toNat 0) (wrap64 ((l0_0.length : Int) - 1)) l0_0 l0_1 l0_2) else (none)) else (none)
def spec_l7Best.T12 : Bool × List (List Nat × List Nat) := (true, [([], []), ([0], [0]), ([1], [1]), ([2], [2]), ([], []), ([], []), ([], []), ([], []), ([4, 5, 6, 7], [4, 5, 6, 7]), ([3, 8], [3, 8]), ([], []), ([], []), ([10, 11], [10, 11]), ([12], [12]), ([9, 13], [9, 13]), ([14, 8, 0, 1, 2, 3, 4, 5, 6, 7, 8, 9, 10, 11, 12, 13, 14], [14])])
def spec_l7Best.B12 : List Nat := [0, 1, 3, 7, 0, 0, 0, 0, 240, 511, 0, 0, 3072, 7168, 16383, 32767]
theorem spec_l7Best.tab12 : rtab .any (opsOf Try.f68 12) = spec_l7Best.T12 := by kernel_rfl
theorem spec_l7Best.bits12 : waitsOk spec_l7Best.T12.2 spec_l7Best.B12 = true := by kernel_rfl
set_option maxHeartbeats 8000000 in
set_option maxRecDepth 100000 in
theorem spec_l7Best.calls (k : Nat) (A0_0 : Option Addr) (c0_0 : Nat) (l0_0 : List Int) (A0_1 : Option Addr) (c0_1 : Nat) (l0_1 : List Int) (A0_2 : Option Addr) (c0_2 : Nat) (l0_2 : List Int) (r : Int) (w : World) (hr0_0 : Kd.C (Kd.int .i64) w A0_0 l0_0.length l0_0) (hc0_0 : l0_0.length ≤ c0_0) (hr0_1 : Kd.C (Kd.int .i64) w A0_1 l0_1.length l0_1) (hc0_1 : l0_1.length ≤ c0_1) (hr0_2 : Kd.C (Kd.int .i64) w A0_2 l0_2.length l0_2) (hc0_2 : l0_2.length ≤ c0_2) (h : spec_l7Best.f k l0_0 l0_1 l0_2 = some r) :
 Calls Try.prog 68 #[.agg #[.slice A0_0 l0_0.length c0_0, .slice A0_1 l0_1.length c0_1, .slice A0_2 l0_2.length c0_2]] w fun e w' => e = .returned (.int .i64 r) ∧ Below w.heap.size w w' := by
 have hu26 := Try.underlying26
 have HR0_0 := Aside0.mk hr0_0
 have HC0_0 := Aside0.mk hc0_0
 clear hr0_0 hc0_0
 have HR0_1 := Aside0.mk hr0_1
 have HC0_1 := Aside0.mk hc0_1
 clear hr0_1 hc0_1
 have HR0_2 := Aside0.mk hr0_2
 have HC0_2 := Aside0.mk hc0_2
 clear hr0_2 hc0_2
 have HB := Aside0.mk (Below.refl w.heap.size w)
 have H : (if 0 ≤ (wrap64 ((l0_0.length : Int) + 1)) then (if (wrap64 ((l0_0.length : Int) + 1) : Int).toNat ≤ 35184372088832 then (spec_l7Best.l0 k (l0_0.length : Int) (List.replicate (wrap64 ((l0_0.length : Int) + 1) : Int).toNat 0) (wrap64 ((l0_0.length : Int) - 1)) l0_0 l0_1 l0_2) else (none)) else (none)) = some r := h
 clear h
 obtain ⟨ji2, hji2⟩ : ∃ j_ : Int, (wrap64 ((l0_0.length : Int) + 1)) = j_ := ⟨_, rfl⟩
 replace H : (if 0 ≤ (ji2) then (if (ji2 : Int).toNat ≤ 35184372088832 then (spec_l7Best.l0 k (l0_0.length : Int) (List.replicate (ji2 : Int).toNat 0) (wrap64 ((l0_0.length : Int) - 1)) l0_0 l0_1 l0_2) else (none)) else (none)) = some r := by first | (rw [hji2] at H; exact H) | (simp only [hji2] at H ⊢; exact H)
 have hji2w : (IntKind.i64.wrap ((l0_0.length : Int) + 1)) = ji2 := (i64_w _).trans hji2
 by_cases c3 : 0 ≤ (ji2)
 · rw [if_pos c3] at H
   have c3b0 := eq_true c3
   have c3b1 : decide (0 ≤ (ji2)) = true := decide_eq_true c3
   clear c3
   by_cases c4 : (ji2 : Int).toNat ≤ 35184372088832
   · rw [if_pos c4] at H
     have c4b0 := eq_true c4
     have c4b1 : decide ((ji2 : Int).toNat ≤ 35184372088832) = true := decide_eq_true c4
     clear c4
     obtain ⟨y1034, hy1034⟩ : ∃ y_ : List Int, y_ = (List.replicate (ji2 : Int).toNat 0) := ⟨_, rfl⟩
     replace H : (spec_l7Best.l0 k (l0_0.length : Int) y1034 (wrap64 ((l0_0.length : Int) - 1)) l0_0 l0_1 l0_2) = some r := by first | (rw [hy1034]; with_reducible exact H) | (have H2_ := (Option.bind_some _ _).symm.trans H; rw [hy1034]; with_reducible exact H2_) | (have H2_ := (Option.bind_some _ _).symm.trans H; with_reducible exact H2_) | with_reducible exact H | (rw [hy1034]; exact H) | exact H
     have Ny1034 := Aside0.mk hy1034
     clear hy1034
     have H' := Aside0.mk H
     clear H
     go_enter Try.func68, Try.ntmps68
     go_wp2_with (first | ((with_reducible refine gate_dst (N := 1) rfl ?_); refine box_event ?hg (N := 1) ?hd (cs := #[.slice A0_0 l0_0.length c0_0, .slice A0_1 l0_1.length c0_1, .slice A0_2 l0_2.length c0_2]) (t := 26) ?hr ?_; (case hd => rfl); (case hg => rfl); (case hr => first | (go_simp; done) | (go_simp; rfl)); intro gb1033 hg w5 hbox hb; have n0_ := Aside0.mk (below_step (by repeat (first | (with_reducible first | exact HB.out | apply below_alloc | apply pw_below_drewN | apply below_drew1) | exact HB.out)) hb); have n1_ := Aside0.mk (hbox); have n2_ := Aside0.mk ((by rw [hg]; exact (below_size (by repeat (first | (with_reducible first | exact HB.out | apply below_alloc | apply pw_below_drewN | apply below_drew1) | exact HB.out))) : w.heap.size ≤ gb1033)); have n3_ := Aside0.mk ((by rw [hg]; exact (below_size (by repeat (first | (with_reducible first | exact HB.out | apply below_alloc | apply pw_below_drewN | apply below_drew1) | exact HB.out))) : w.heap.size ≤ gb1033)); clear HB; have HB := n0_; have BK1033 := n1_; have GW1033 := n2_; have GE1033 := n3_; clear n0_ n1_ n2_ n3_; clear hb hbox hg; have hcz6_0 : w5.cell? ⟨gb1033, 0, none⟩ = some (.slice A0_0 l0_0.length c0_0) := (blk_cell BK1033.out 0).trans rfl; have hcz6_1 : w5.cell? ⟨gb1033, 1, none⟩ = some (.slice A0_1 l0_1.length c0_1) := (blk_cell BK1033.out 1).trans rfl; have hcz6_2 : w5.cell? ⟨gb1033, 2, none⟩ = some (.slice A0_2 l0_2.length c0_2) := (blk_cell BK1033.out 2).trans rfl; have hfz6_0 := blk_frozen BK1033.out 0; have hfz6_1 := blk_frozen BK1033.out 1; have hfz6_2 := blk_frozen BK1033.out 2) | ((with_reducible refine gate_dst (N := 13) rfl ?_); refine Kd.R_make (Kd.int .i64) _ 3 rfl (N := 13) rfl 24 _ _ rfl ji2 rfl rfl Try.underlying24 (.int .i64 0) 8 info3 rfl (by decide) (by omega) 0 (ok := fun _ => True) (okp := fun _ => True) rfl (fun _ hk => hk) trivial (of_decide_eq_true (by first | (with_reducible assumption) | assumption)) (Nat.le_trans (Nat.mul_le_mul_right _ (of_decide_eq_true (by first | (with_reducible assumption) | assumption) : ji2.toNat ≤ 35184372088832)) (by omega)) (Below.refl _ _) (Nat.le_refl _) ?_; intro v1035 w7 ho8 hb hg_ hnew_; clear hg_ hnew_; (first | rw [← Ny1034.out] at ho8 | (simp only [Int.reduceToNat] at ho8; rw [← Ny1034.out] at ho8)); have n0_ := Aside0.mk (Kd.R_lower ho8 (below_size (by repeat (first | (with_reducible first | exact HB.out | apply below_alloc | apply pw_below_drewN | apply below_drew1 | refine below_set ?_ GE1033.out) | exact HB.out)))); have n1_ := Aside0.mk (blk_below (g := gb1033) (o := .cells #[.slice A0_0 l0_0.length c0_0, .slice A0_1 l0_1.length c0_1, .slice A0_2 l0_2.length c0_2] 26 (0, 0)) (by (with_reducible repeat (first | refine blk_drewN ?_ _ | refine blk_drew ?_ | refine blk_alloc ?_ _)); exact BK1033.out) hb); have n2_ := Aside0.mk (below_step (by repeat (first | (with_reducible first | exact HB.out | apply below_alloc | apply pw_below_drewN | apply below_drew1 | refine below_set ?_ GE1033.out) | exact HB.out)) hb); clear BK1033; clear HB; have HO1036 := n0_; have BK1033 := n1_; have HB := n2_; clear n0_ n1_ n2_; clear hb ho8))
     go_loopg [5] k (fun kq v5 w' => ∃ (x4_1 : List Int) (x5_1 : Int), v5 = .int .i64 x5_1 ∧ Aside0 (spec_l7Best.l0 kq (l0_0.length : Int) x4_1 x5_1 l0_0 l0_1 l0_2 = some r) ∧ Aside0 (kq ≤ k) ∧ Aside0 (Kd.R (Kd.int .i64) 3 w' w.heap.size (fun _ => True) v1035 x4_1) ∧ Aside0 (w'.heap[gb1033]? = some (.cells #[(.slice A0_0 l0_0.length c0_0), (.slice A0_1 l0_1.length c0_1), (.slice A0_2 l0_2.length c0_2)] 26 (0, 0))) ∧ Aside0 (Below w.heap.size w w'))
     case atStart => exact ⟨(y1034), (wrap64 ((l0_0.length : Int) - 1)), (by first | rfl | (simp; done) | (simp [*]; done)), H', ⟨Nat.le_refl _⟩, ⟨by (with_reducible repeat (first | apply Kd.R_alloc | apply Kd.R_drewN | apply Kd.R_drew)); exact HO1036.out⟩, ⟨by (with_reducible repeat (first | refine blk_drewN ?_ _ | refine blk_drew ?_ | refine blk_alloc ?_ _)); exact BK1033.out⟩, ⟨by repeat (first | (with_reducible first | exact HB.out | apply below_alloc | apply pw_below_drewN | apply below_drew1 | refine below_set ?_ GE1033.out) | exact HB.out)⟩⟩
     case round =>
      clear H'
      try clear p2
      try clear c3
      try clear c3b0
      try clear c3b1
      try clear c4
      try clear c4b0
      try clear c4b1
      try clear c6
      try clear p6
      try clear hcz6_0
      try clear hcz6_1
      try clear hcz6_2
      try clear hfz6_0
      try clear hfz6_1
      try clear hfz6_2
      obtain ⟨x4_1, x5_1, rfl, HA, HK1, HO_4, BK1033, HB⟩ := hrel
      cases gk with
      | zero => exact absurd HA.out (by simp [spec_l7Best.l0])
      | succ k1 =>
       have H := HA.out
       clear HA
       simp only [spec_l7Best.l0] at H
       by_cases c9 : x5_1 ≥ 0
       · rw [if_pos c9] at H
         have c9b0 : decide (0 ≤ x5_1) = true := decide_eq_true c9
         clear c9
         by_cases c10 : 0 ≤ x5_1
         · rw [if_pos c10] at H
           have c10b0 : decide (0 ≤ x5_1) = true := decide_eq_true c10
           clear c10
           by_cases c11 : x5_1 < (l0_0.length : Int)
           · rw [if_pos c11] at H
             have c11b0 : decide (x5_1 < (l0_0.length : Int)) = true := decide_eq_true c11
             clear c11
             by_cases c12 : (rd l0_0 x5_1) = 0
             · rw [if_pos c12] at H
               have c12b0 : ((rd l0_0 x5_1) == 0) = true := beq_iff_eq.mpr c12
               have c12b1 : ((rd l0_0 x5_1) != 0) = false := bne_eq_false_iff_eq.mpr c12
               clear c12
               obtain ⟨ji13, hji13⟩ : ∃ j_ : Int, (wrap64 (x5_1 + 1)) = j_ := ⟨_, rfl⟩
               replace H : (if 0 ≤ (ji13) then (if (ji13) < (x4_1.length : Int) then (if x5_1 < (x4_1.length : Int) then (spec_l7Best.l0 k1 (l0_0.length : Int) (x4_1.set (x5_1 : Int).toNat (rd x4_1 (ji13))) (wrap64 (x5_1 - 1)) l0_0 l0_1 l0_2) else (none)) else (none)) else (none)) = some r := by first | (rw [hji13] at H; exact H) | (simp only [hji13] at H ⊢; exact H)
               have hji13w : (IntKind.i64.wrap (x5_1 + 1)) = ji13 := (i64_w _).trans hji13
               by_cases c14 : 0 ≤ (ji13)
               · rw [if_pos c14] at H
                 have c14b0 : decide (0 ≤ (ji13)) = true := decide_eq_true c14
                 clear c14
                 by_cases c15 : (ji13) < (x4_1.length : Int)
                 · rw [if_pos c15] at H
                   have c15b0 : decide ((ji13) < (x4_1.length : Int)) = true := decide_eq_true c15
                   clear c15
                   by_cases c16 : x5_1 < (x4_1.length : Int)
                   · rw [if_pos c16] at H
                     have c16b0 : decide (x5_1 < (x4_1.length : Int)) = true := decide_eq_true c16
                     clear c16
                     obtain ⟨y1040, hy1040⟩ : ∃ y_ : List Int, y_ = (x4_1.set (x5_1 : Int).toNat (rd x4_1 (ji13))) := ⟨_, rfl⟩
                     replace H : (spec_l7Best.l0 k1 (l0_0.length : Int) y1040 (wrap64 (x5_1 - 1)) l0_0 l0_1 l0_2) = some r := by first | (rw [hy1040]; with_reducible exact H) | (have H2_ := (Option.bind_some _ _).symm.trans H; rw [hy1040]; with_reducible exact H2_) | (have H2_ := (Option.bind_some _ _).symm.trans H; with_reducible exact H2_) | with_reducible exact H | (rw [hy1040]; exact H) | exact H
                     have Ny1040 := Aside0.mk hy1040
                     clear hy1040
                     have H' := Aside0.mk H
                     clear H
                     have hcz18_0 : wr.cell? ⟨gb1033, 0, none⟩ = some (.slice A0_0 l0_0.length c0_0) := (blk_cell BK1033.out 0).trans rfl
                     have hcz18_1 : wr.cell? ⟨gb1033, 1, none⟩ = some (.slice A0_1 l0_1.length c0_1) := (blk_cell BK1033.out 1).trans rfl
                     have hcz18_2 : wr.cell? ⟨gb1033, 2, none⟩ = some (.slice A0_2 l0_2.length c0_2) := (blk_cell BK1033.out 2).trans rfl
                     have hfz18_0 := blk_frozen BK1033.out 0
                     have hfz18_1 := blk_frozen BK1033.out 1
                     have hfz18_2 := blk_frozen BK1033.out 2
                     have p1038 : 0 ≤ (x5_1 : Int) := of_decide_eq_true (by first | (with_reducible assumption) | assumption)
                     have q1038 : x5_1 < (l0_0.length : Int) := of_decide_eq_true (by first | (with_reducible assumption) | assumption)
                     obtain ⟨ad1038, e1038, hx1038_0⟩ := Kd.at_int HR0_0.out x5_1 p1038 q1038
                     cases e1038
                     replace hx1038_0 := (HB.out.cell (World.block_lt_of_cell? w _ hx1038_0)).trans hx1038_0
                     replace p1038 := eq_true p1038
                     replace q1038 := eq_true q1038
                     obtain ⟨Ao19, co19, eo19⟩ := Kd.R_slice HO_4.out
                     subst eo19
                     have p1039 : 0 ≤ ((ji13) : Int) := of_decide_eq_true (by first | (with_reducible assumption) | assumption)
                     have q1039 : (ji13) < (x4_1.length : Int) := of_decide_eq_true (by first | (with_reducible assumption) | assumption)
                     obtain ⟨ad1039, e1039, hx1039_0⟩ := Kd.at_int (Kd.R_reads' HO_4.out).2.2 (ji13) p1039 q1039
                     cases e1039
                     replace p1039 := eq_true p1039
                     replace q1039 := eq_true q1039
                     have p17 : 0 ≤ (x5_1 : Int) := of_decide_eq_true (by first | (with_reducible assumption) | assumption)
                     have q17 : (x5_1 : Int) < ((x4_1.length : Int) : Int) := of_decide_eq_true (by first | (with_reducible assumption) | assumption)
                     obtain ⟨go17, co17, eo17, gb17, gl17, cl17, HG17⟩ := Kd.R_form HO_4.out (by omega)
                     (first | cases eo17 | (injection eo17 with ea_ en_ ec_; (first | subst ea_ | (injection ea_ with ea_; subst ea_)); subst ec_; clear en_))
                     have GB17 := Aside0.mk gb17
                     have GG17 := Aside0.mk HG17
                     clear gb17 gl17 HG17
                     (first | simp only [add_plain] at hx1039_0 | skip)
                     obtain ⟨hx17_0, hf17_0⟩ := Kd.R_celln 0 HO_4.out (x5_1 : Int) p17 q17
                     replace p17 := eq_true p17
                     replace q17 := eq_true q17
                     have HP20 := Kd.R_putg HO_4.out (x5_1 : Int) (rd x4_1 (ji13))
                     go_wp2_with (first | ((with_reducible refine gate_store (t := 3) (p := 33) rfl ?_); refine store_event (t := 3) (p := 33) (v := ?vo_w21) (w1 := (wr.setCell ⟨go17, (x5_1 : Int).toNat, none⟩ (.int .i64 (rd x4_1 (ji13))))) ?hg ?ho ?hn ?hr ?_; (case ho => rfl); (case hg => rfl); (case hn => rfl); (case hr => first | (go_simp; done) | (go_simp; rfl)); intro w21 hw; have hg : wr.grownBy w21 (some go17) := (by rw [hw]; exact HP20.2); have hp_ : Kd.R (Kd.int .i64) 3 w21 w.heap.size (fun _ => True) (.slice (some ⟨go17, 0, none⟩) x4_1.length co19) y1040 := (by rw [hw, Ny1040.out]; exact HP20.1); clear HP20; have n0_ := Aside0.mk (hp_); have n1_ := Aside0.mk (blk_grown (g := gb1033) (o := .cells #[.slice (some ad1038) l0_0.length c0_0, .slice A0_1 l0_1.length c0_1, .slice A0_2 l0_2.length c0_2] 26 (0, 0)) (by (with_reducible repeat (first | refine blk_drewN ?_ _ | refine blk_drew ?_ | refine blk_alloc ?_ _)); exact BK1033.out) hg (Kd.R_ne HO_4.out BK1033.out (by decide))); have n2_ := Aside0.mk ((by rw [hw]; exact below_set (HB.out) GB17.out : Below w.heap.size w w21)); clear HO_4; clear BK1033; clear HB; have HO_4 := n0_; have BK1033 := n1_; have HB := n2_; clear n0_ n1_ n2_; clear hg hw hp_))
                     go_roundg k1
                     case measure => have := HK1.out; omega
                     case rel => exact ⟨(y1040), (wrap64 (x5_1 - 1)), (by first | rfl | (simp; done) | (simp [*]; done)), H', ⟨by have := HK1.out; omega⟩, ⟨by (with_reducible repeat (first | apply Kd.R_alloc | apply Kd.R_drewN | apply Kd.R_drew)); exact HO_4.out⟩, ⟨by (with_reducible repeat (first | refine blk_drewN ?_ _ | refine blk_drew ?_ | refine blk_alloc ?_ _)); exact BK1033.out⟩, ⟨by repeat (first | (with_reducible first | exact HB.out | apply below_alloc | apply pw_below_drewN | apply below_drew1 | refine below_set ?_ GE1033.out) | exact HB.out)⟩⟩
                   · rw [if_neg c16] at H
                     exact absurd H (by simp)
                 · rw [if_neg c15] at H
                   exact absurd H (by simp)
               · rw [if_neg c14] at H
                 exact absurd H (by simp)
             · rw [if_neg c12] at H
               have c12b0 : ((rd l0_0 x5_1) == 0) = false := beq_eq_false_iff_ne.mpr c12
               have c12b1 : ((rd l0_0 x5_1) != 0) = true := bne_iff_ne.mpr c12
               by_cases c22 : x5_1 < (x4_1.length : Int)
               · rw [if_pos c22] at H
                 have c22b0 : decide (x5_1 < (x4_1.length : Int)) = true := decide_eq_true c22
                 clear c22
                 obtain ⟨y1041, hy1041⟩ : ∃ y_ : List Int, y_ = (x4_1.set (x5_1 : Int).toNat (-1)) := ⟨_, rfl⟩
                 replace H : (spec_l7Best.l1 k1 (l0_0.length : Int) y1041 x5_1 (wrap64 (x5_1 + 1)) l0_0 l0_1 l0_2) = some r := by first | (rw [hy1041]; with_reducible exact H) | (have H2_ := (Option.bind_some _ _).symm.trans H; rw [hy1041]; with_reducible exact H2_) | (have H2_ := (Option.bind_some _ _).symm.trans H; with_reducible exact H2_) | with_reducible exact H | (rw [hy1041]; exact H) | exact H
                 have Ny1041 := Aside0.mk hy1041
                 clear hy1041
                 have H' := Aside0.mk H
                 clear H
                 have hcz24_0 : wr.cell? ⟨gb1033, 0, none⟩ = some (.slice A0_0 l0_0.length c0_0) := (blk_cell BK1033.out 0).trans rfl
                 have hcz24_1 : wr.cell? ⟨gb1033, 1, none⟩ = some (.slice A0_1 l0_1.length c0_1) := (blk_cell BK1033.out 1).trans rfl
                 have hcz24_2 : wr.cell? ⟨gb1033, 2, none⟩ = some (.slice A0_2 l0_2.length c0_2) := (blk_cell BK1033.out 2).trans rfl
                 have hfz24_0 := blk_frozen BK1033.out 0
                 have hfz24_1 := blk_frozen BK1033.out 1
                 have hfz24_2 := blk_frozen BK1033.out 2
                 have p1038 : 0 ≤ (x5_1 : Int) := of_decide_eq_true (by first | (with_reducible assumption) | assumption)
                 have q1038 : x5_1 < (l0_0.length : Int) := of_decide_eq_true (by first | (with_reducible assumption) | assumption)
                 obtain ⟨ad1038, e1038, hx1038_0⟩ := Kd.at_int HR0_0.out x5_1 p1038 q1038
                 cases e1038
                 replace hx1038_0 := (HB.out.cell (World.block_lt_of_cell? w _ hx1038_0)).trans hx1038_0
                 replace p1038 := eq_true p1038
                 replace q1038 := eq_true q1038
                 have p23 : 0 ≤ (x5_1 : Int) := of_decide_eq_true (by first | (with_reducible assumption) | assumption)
                 have q23 : (x5_1 : Int) < ((x4_1.length : Int) : Int) := of_decide_eq_true (by first | (with_reducible assumption) | assumption)
                 obtain ⟨go23, co23, eo23, gb23, gl23, cl23, HG23⟩ := Kd.R_form HO_4.out (by omega)
                 (first | cases eo23 | (injection eo23 with ea_ en_ ec_; (first | subst ea_ | (injection ea_ with ea_; subst ea_)); subst ec_; clear en_))
                 have GB23 := Aside0.mk gb23
                 have GG23 := Aside0.mk HG23
                 clear gb23 gl23 HG23
                 obtain ⟨hx23_0, hf23_0⟩ := Kd.R_celln 0 HO_4.out (x5_1 : Int) p23 q23
                 replace p23 := eq_true p23
                 replace q23 := eq_true q23
                 have HP25 := Kd.R_putg HO_4.out (x5_1 : Int) (-1)
                 go_wp2_with (first | ((with_reducible refine gate_store (t := 3) (p := 36) rfl ?_); refine store_event (t := 3) (p := 36) (v := ?vo_w26) (w1 := (wr.setCell ⟨go23, (x5_1 : Int).toNat, none⟩ (.int .i64 (-1)))) ?hg ?ho ?hn ?hr ?_; (case ho => rfl); (case hg => rfl); (case hn => rfl); (case hr => first | (go_simp; done) | (go_simp; rfl)); intro w26 hw; have hg : wr.grownBy w26 (some go23) := (by rw [hw]; exact HP25.2); have hp_ : Kd.R (Kd.int .i64) 3 w26 w.heap.size (fun _ => True) (.slice (some ⟨go23, 0, none⟩) x4_1.length co23) y1041 := (by rw [hw, Ny1041.out]; exact HP25.1); clear HP25; have n0_ := Aside0.mk (hp_); have n1_ := Aside0.mk (blk_grown (g := gb1033) (o := .cells #[.slice (some ad1038) l0_0.length c0_0, .slice A0_1 l0_1.length c0_1, .slice A0_2 l0_2.length c0_2] 26 (0, 0)) (by (with_reducible repeat (first | refine blk_drewN ?_ _ | refine blk_drew ?_ | refine blk_alloc ?_ _)); exact BK1033.out) hg (Kd.R_ne HO_4.out BK1033.out (by decide))); have n2_ := Aside0.mk ((by rw [hw]; exact below_set (HB.out) GB23.out : Below w.heap.size w w26)); clear HO_4; clear BK1033; clear HB; have HO_4 := n0_; have BK1033 := n1_; have HB := n2_; clear n0_ n1_ n2_; clear hg hw hp_))
                 go_loopg [6] k1 (fun kq v6 w' => ∃ (x4_2 : List Int) (x6_2 : Int), v6 = .int .i64 x6_2 ∧ Aside0 (spec_l7Best.l1 kq (l0_0.length : Int) x4_2 x5_1 x6_2 l0_0 l0_1 l0_2 = some r) ∧ Aside0 (kq ≤ k1) ∧ Aside0 (Kd.R (Kd.int .i64) 3 w' w.heap.size (fun _ => True) (.slice (some ⟨go23, 0, none⟩) x4_1.length co23) x4_2) ∧ Aside0 (w'.heap[gb1033]? = some (.cells #[(.slice (some ad1038) l0_0.length c0_0), (.slice A0_1 l0_1.length c0_1), (.slice A0_2 l0_2.length c0_2)] 26 (0, 0))) ∧ Aside0 (Below w.heap.size w w'))
                 case atStart => exact ⟨(y1041), (wrap64 (x5_1 + 1)), (by first | rfl | (simp; done) | (simp [*]; done)), H', ⟨Nat.le_refl _⟩, ⟨by (with_reducible repeat (first | apply Kd.R_alloc | apply Kd.R_drewN | apply Kd.R_drew)); exact HO_4.out⟩, ⟨by (with_reducible repeat (first | refine blk_drewN ?_ _ | refine blk_drew ?_ | refine blk_alloc ?_ _)); exact BK1033.out⟩, ⟨by repeat (first | (with_reducible first | exact HB.out | apply below_alloc | apply pw_below_drewN | apply below_drew1 | refine below_set ?_ GE1033.out) | exact HB.out)⟩⟩
                 case round =>
                  clear H'
                  try clear c1
                  try clear p1
                  try clear q1
                  try clear hx1
                  try clear hf1
                  try clear c2
                  try clear p2
                  try clear q2
                  try clear hx2
                  try clear hf2
                  try clear c3
                  try clear c3b0
                  try clear c3b1
                  try clear c4
                  try clear c4b0
                  try clear c4b1
                  try clear c6
                  try clear p6
                  try clear c9
                  try clear c9b0
                  try clear c10
                  try clear c10b0
                  try clear p10
                  try clear q10
                  try clear hx10
                  try clear c11
                  try clear c11b0
                  try clear c12
                  try clear c12b0
                  try clear c12b1
                  try clear c14
                  try clear c14b0
                  try clear c15
                  try clear c15b0
                  try clear c16
                  try clear c16b0
                  try clear p17
                  try clear q17
                  try clear hx17
                  try clear hf17
                  try clear c22
                  try clear c22b0
                  try clear p23
                  try clear q23
                  try clear hx23
                  try clear hf23
                  try clear hcz18_0
                  try clear hcz18_1
                  try clear hcz18_2
                  try clear hcz24_0
                  try clear hcz24_1
                  try clear hcz24_2
                  try clear hcz6_0
                  try clear hcz6_1
                  try clear hcz6_2
                  try clear hfz18_0
                  try clear hfz18_1
                  try clear hfz18_2
                  try clear hfz24_0
                  try clear hfz24_1
                  try clear hfz24_2
                  try clear hfz6_0
                  try clear hfz6_1
                  try clear hfz6_2
                  try clear hx1038_0
                  try clear hx1039_0
                  try clear hx17_0
                  try clear hx23_0
                  try clear p1038
                  try clear p1039
                  try clear p17
                  try clear p2
                  try clear p23
                  try clear p6
                  try clear q1038
                  try clear q1039
                  try clear q17
                  try clear q23
                  obtain ⟨x4_2, x6_2, rfl, HA, HK2, HO_4, BK1033, HB⟩ := hrel
                  have hl4_2 := (Kd.R_reads' HO_4.out).1
                  rw [hl4_2] at HO_4
                  (try simp only [hl4_2])
                  (try simp only [hl4_2] at BK1033)
                  cases gk with
                  | zero => exact absurd HA.out (by simp [spec_l7Best.l1])
                  | succ k2 =>
                   have H := HA.out
                   clear HA
                   simp only [spec_l7Best.l1] at H
                   by_cases c27 : x6_2 ≤ (l0_0.length : Int)
                   · rw [if_pos c27] at H
                     have c27b0 : decide (x6_2 ≤ (l0_0.length : Int)) = true := decide_eq_true c27
                     clear c27
                     by_cases c28 : 0 < (l0_1.length : Int)
                     · rw [if_pos c28] at H
                       have c28b0 : decide (0 < (l0_1.length : Int)) = true := decide_eq_true c28
                       have c28b1 : decide (0 < l0_1.length) = true := decide_eq_true (by omega)
                       clear c28
                       replace H := Option.bind_eq_some_iff.mp H
                       obtain ⟨t1043, A290, H⟩ := H
                       replace H : (if 0 ≤ x6_2 then (if x6_2 < (x4_2.length : Int) then (if 0 ≤ x5_1 then (if x5_1 < (x4_2.length : Int) then (if (rd x4_2 x5_1) < 0 then (spec_l7Best.l1 k2 (l0_0.length : Int) (x4_2.set (x5_1 : Int).toNat (wrap64 ((wrap64 ((rd l0_1 0) + t1043)) + (rd x4_2 x6_2)))) x5_1 (wrap64 (x6_2 + 1)) l0_0 l0_1 l0_2) else (if (wrap64 ((wrap64 ((rd l0_1 0) + t1043)) + (rd x4_2 x6_2))) < (rd x4_2 x5_1) then (spec_l7Best.l1 k2 (l0_0.length : Int) (x4_2.set (x5_1 : Int).toNat (wrap64 ((wrap64 ((rd l0_1 0) + t1043)) + (rd x4_2 x6_2)))) x5_1 (wrap64 (x6_2 + 1)) l0_0 l0_1 l0_2) else (spec_l7Best.l1 k2 (l0_0.length : Int) x4_2 x5_1 (wrap64 (x6_2 + 1)) l0_0 l0_1 l0_2))) else (none)) else (none)) else (none)) else (none)) = some r := H
                       have A29 := Aside0.mk A290
                       clear A290
                       by_cases c30 : 0 ≤ x6_2
                       · rw [if_pos c30] at H
                         have c30b0 : decide (0 ≤ x6_2) = true := decide_eq_true c30
                         clear c30
                         by_cases c31 : x6_2 < (x4_2.length : Int)
                         · rw [if_pos c31] at H
                           have c31b0 : decide (x6_2 < (x4_2.length : Int)) = true := decide_eq_true c31
                           clear c31
                           by_cases c32 : 0 ≤ x5_1
                           · rw [if_pos c32] at H
                             have c32b0 : decide (0 ≤ x5_1) = true := decide_eq_true c32
                             clear c32
                             by_cases c33 : x5_1 < (x4_2.length : Int)
                             · rw [if_pos c33] at H
                               have c33b0 : decide (x5_1 < (x4_2.length : Int)) = true := decide_eq_true c33
                               clear c33
                               by_cases c34 : (rd x4_2 x5_1) < 0
                               · rw [if_pos c34] at H
                                 have c34b0 : decide ((rd x4_2 x5_1) < 0) = true := decide_eq_true c34
                                 clear c34
                                 obtain ⟨y1047, hy1047⟩ : ∃ y_ : List Int, y_ = (x4_2.set (x5_1 : Int).toNat (wrap64 ((wrap64 ((rd l0_1 0) + t1043)) + (rd x4_2 x6_2)))) := ⟨_, rfl⟩
                                 replace H : (spec_l7Best.l1 k2 (l0_0.length : Int) y1047 x5_1 (wrap64 (x6_2 + 1)) l0_0 l0_1 l0_2) = some r := by first | (rw [hy1047]; with_reducible exact H) | (have H2_ := (Option.bind_some _ _).symm.trans H; rw [hy1047]; with_reducible exact H2_) | (have H2_ := (Option.bind_some _ _).symm.trans H; with_reducible exact H2_) | with_reducible exact H | (rw [hy1047]; exact H) | exact H
                                 have Ny1047 := Aside0.mk hy1047
                                 clear hy1047
                                 have H' := Aside0.mk H
                                 clear H
                                 try go_wp2
                                 have n0_ := Aside0.mk (Kd.R_drew HO_4.out)
                                 have n1_ := Aside0.mk (blk_drew BK1033.out)
                                 have n2_ := Aside0.mk (below_drew1 HB.out)
                                 clear HO_4
                                 clear BK1033
                                 clear HB
                                 have HO_4 := n0_
                                 have BK1033 := n1_
                                 have HB := n2_
                                 clear n0_ n1_ n2_
                                 have p1042 : 0 ≤ (0 : Int) := (by omega)
                                 have q1042 : 0 < (l0_1.length : Int) := of_decide_eq_true (by first | (with_reducible assumption) | assumption)
                                 obtain ⟨ad1042, e1042, hx1042_0⟩ := Kd.at_int HR0_1.out 0 p1042 q1042
                                 have hw1042_0 := hx1042_0
                                 (try rw [show ((0 : Int)).toNat = 0 from rfl] at hw1042_0)
                                 (try rw [show 0 * 1 = 0 from rfl] at hw1042_0)
                                 (try rw [Addr.add_zero'] at hw1042_0)
                                 cases e1042
                                 have qi1042 : (0 < l0_1.length) = True := eq_true (by omega)
                                 (try rw [show ((0 : Int)).toNat = 0 from rfl] at hx1042_0)
                                 (try rw [Addr.add_zero'] at hx1042_0)
                                 replace hx1042_0 := (HB.out.cell (World.block_lt_of_cell? w _ hx1042_0)).trans hx1042_0
                                 replace p1042 := eq_true p1042
                                 replace q1042 := eq_true q1042
                                 have p1044 : 0 ≤ (x6_2 : Int) := of_decide_eq_true (by first | (with_reducible assumption) | assumption)
                                 have q1044 : x6_2 < (x4_2.length : Int) := of_decide_eq_true (by first | (with_reducible assumption) | assumption)
                                 obtain ⟨ad1044, e1044, hx1044_0⟩ := Kd.at_int (Kd.R_reads' HO_4.out).2.2 x6_2 p1044 q1044
                                 obtain rfl : (⟨go23, 0, none⟩ : Addr) = ad1044 := (by injection e1044)
                                 (first | simp only [add_plain] at hx1044_0 | simp only [add_at] at hx1044_0 | simp only [Addr.add, Nat.zero_add] at hx1044_0 | skip)
                                 replace p1044 := eq_true p1044
                                 replace q1044 := eq_true q1044
                                 refine start_ (n := 16) (S := fun w' => w'.cell? ⟨gb1033, 0, none⟩ = some (.slice (some ad1038) l0_0.length c0_0) ∧ w'.cell? ⟨gb1033, 1, none⟩ = some (.slice (some ad1042) l0_1.length c0_1) ∧ w'.cell? ⟨gb1033, 2, none⟩ = some (.slice A0_2 l0_2.length c0_2) ∧ w'.cell? ad1042 = some (.int .i64 (rd l0_1 0)) ∧ w'.cell? ⟨go23, (x6_2).toNat, none⟩ = some (.int .i64 (rd x4_2 x6_2))) (ds := []) #[false, false, false, false, false, false, false, false, false, false, false, false, false, false, false, false] (by kernel_rfl) rfl rfl ⟨(blk_cell BK1033.out 0).trans rfl, (blk_cell BK1033.out 1).trans rfl, (blk_cell BK1033.out 2).trans rfl, ((HB.out.cell (World.block_lt_of_cell? w _ hw1042_0)).trans hw1042_0), hx1044_0⟩ (fun hHeld => ?_); refine with_tabW spec_l7Best.tab12 spec_l7Best.bits12 (fun HT_ HW_ => ?_)
                                 generalize wr.drew = w36 at HO_4 BK1033 HB hx1042_0 hx1044_0 hHeld ⊢
                                 refine pure_ (i := 0) (N := some 44) (v := ?_) (a' := ?_) #[true, false, false, false, false, false, false, false, false, false, false, false, false, false, false, false] rfl rfl (any_of HT_.out (by kernel_rfl)) (fun _ _ _ h => h) (Or.inl ⟨by rfl, ?_⟩) ?_ ?_
                                 rotate_left
                                 · intro w'
                                   go_simp
                                   with_reducible rfl
                                 rotate_left
                                 · simp only [Act.put, List.setIfInBounds_toArray, List.set_cons_zero, List.set_cons_succ, i64_w, i32_w]
                                   rfl
                                 refine pure_ (i := 5) (N := some 49) (v := ?_) (a' := ?_) #[true, false, false, false, false, true, false, false, false, false, false, false, false, false, false, false] rfl rfl (any_of HT_.out (by kernel_rfl)) (fun _ _ _ h => h) (Or.inl ⟨by rfl, ?_⟩) ?_ ?_
                                 rotate_left
                                 · intro w'
                                   go_simp
                                   with_reducible rfl
                                 rotate_left
                                 · simp only [Act.put, List.setIfInBounds_toArray, List.set_cons_zero, List.set_cons_succ, i64_w, i32_w]
                                   rfl
                                 refine pure_ (i := 6) (N := some 50) (v := ?_) (a' := ?_) #[true, false, false, false, false, true, true, false, false, false, false, false, false, false, false, false] rfl rfl (any_of HT_.out (by kernel_rfl)) (fun _ _ _ h => h) (Or.inl ⟨by rfl, ?_⟩) ?_ ?_
                                 rotate_left
                                 · intro w'
                                   go_simp
                                   with_reducible rfl
                                 rotate_left
                                 · simp only [Act.put, List.setIfInBounds_toArray, List.set_cons_zero, List.set_cons_succ, i64_w, i32_w]
                                   rfl
                                 refine pure_ (i := 7) (N := some 51) (v := ?_) (a' := ?_) #[true, false, false, false, false, true, true, true, false, false, false, false, false, false, false, false] rfl rfl (any_of HT_.out (by kernel_rfl)) (fun _ _ _ h => h) (Or.inl ⟨by rfl, ?_⟩) ?_ ?_
                                 rotate_left
                                 · intro w'
                                   go_simp
                                   with_reducible rfl
                                 rotate_left
                                 · simp only [Act.put, List.setIfInBounds_toArray, List.set_cons_zero, List.set_cons_succ, i64_w, i32_w]
                                   rfl
                                 refine pure_ (i := 10) (N := some 54) (v := ?_) (a' := ?_) #[true, false, false, false, false, true, true, true, false, false, true, false, false, false, false, false] rfl rfl (any_of HT_.out (by kernel_rfl)) (fun _ _ _ h => h) (Or.inl ⟨by rfl, ?_⟩) ?_ ?_
                                 rotate_left
                                 · intro w'
                                   go_simp
                                   with_reducible rfl
                                 rotate_left
                                 · simp only [Act.put, List.setIfInBounds_toArray, List.set_cons_zero, List.set_cons_succ, i64_w, i32_w]
                                   rfl
                                 refine pure_ (i := 11) (N := some 55) (v := ?_) (a' := ?_) #[true, false, false, false, false, true, true, true, false, false, true, true, false, false, false, false] rfl rfl (any_of HT_.out (by kernel_rfl)) (fun _ _ _ h => h) (Or.inl ⟨by rfl, ?_⟩) ?_ ?_
                                 rotate_left
                                 · intro w'
                                   go_simp
                                   with_reducible rfl
                                 rotate_left
                                 · simp only [Act.put, List.setIfInBounds_toArray, List.set_cons_zero, List.set_cons_succ, i64_w, i32_w]
                                   rfl
                                 refine pure_ (i := 12) (N := some 56) (v := ?_) (a' := ?_) #[true, false, false, false, false, true, true, true, false, false, true, true, true, false, false, false] rfl rfl (any_of HT_.out (by kernel_rfl)) (fun _ _ _ h => h) (Or.inl ⟨by rfl, ?_⟩) ?_ ?_
                                 rotate_left
                                 · intro w'
                                   go_simp
                                   with_reducible rfl
                                 rotate_left
                                 · simp only [Act.put, List.setIfInBounds_toArray, List.set_cons_zero, List.set_cons_succ, i64_w, i32_w]
                                   rfl
                                 refine take_ (i := 1) (N := some 45) (v := ?_) (a' := ?_) #[true, true, false, false, false, true, true, true, false, false, true, true, true, false, false, false] rfl rfl (take_ofW HT_.out HW_.out (by kernel_rfl)) (fun _ _ _ h => h) (Or.inl ⟨by rfl, ?_⟩) hHeld ?_ ?_
                                 rotate_left
                                 · rintro w' ⟨s0, s1, s2, s3, s4⟩
                                   go_simp
                                   with_reducible rfl
                                 rotate_left
                                 · simp only [Act.put, List.setIfInBounds_toArray, List.set_cons_zero, List.set_cons_succ, i64_w, i32_w]
                                   rfl
                                 refine pure_ (i := 2) (N := some 46) (v := ?_) (a' := ?_) #[true, true, true, false, false, true, true, true, false, false, true, true, true, false, false, false] rfl rfl (any_of HT_.out (by kernel_rfl)) (fun _ _ _ h => h) (Or.inl ⟨by rfl, ?_⟩) ?_ ?_
                                 rotate_left
                                 · intro w'
                                   go_simp
                                   with_reducible rfl
                                 rotate_left
                                 · simp only [Act.put, List.setIfInBounds_toArray, List.set_cons_zero, List.set_cons_succ, i64_w, i32_w]
                                   rfl
                                 refine take_ (i := 3) (N := some 47) (v := ?_) (a' := ?_) #[true, true, true, true, false, true, true, true, false, false, true, true, true, false, false, false] rfl rfl (take_ofW HT_.out HW_.out (by kernel_rfl)) (fun _ _ _ h => h) (Or.inl ⟨by rfl, ?_⟩) hHeld ?_ ?_
                                 rotate_left
                                 · rintro w' ⟨s0, s1, s2, s3, s4⟩
                                   go_simp
                                   with_reducible rfl
                                 rotate_left
                                 · simp only [Act.put, List.setIfInBounds_toArray, List.set_cons_zero, List.set_cons_succ, i64_w, i32_w]
                                   rfl
                                 refine take_ (i := 4) (N := some 48) (v := ?_) (a' := ?_) #[true, true, true, true, true, true, true, true, false, false, true, true, true, false, false, false] rfl rfl (take_ofW HT_.out HW_.out (by kernel_rfl)) (fun _ _ _ h => h) (Or.inl ⟨by rfl, ?_⟩) hHeld ?_ ?_
                                 rotate_left
                                 · rintro w' ⟨s0, s1, s2, s3, s4⟩
                                   go_simp
                                   with_reducible rfl
                                 rotate_left
                                 · simp only [Act.put, List.setIfInBounds_toArray, List.set_cons_zero, List.set_cons_succ, i64_w, i32_w]
                                   rfl
                                 refine take_ (i := 13) (N := some 57) (v := ?_) (a' := ?_) #[true, true, true, true, true, true, true, true, false, false, true, true, true, true, false, false] rfl rfl (take_ofW HT_.out HW_.out (by kernel_rfl)) (fun _ _ _ h => h) (Or.inl ⟨by rfl, ?_⟩) hHeld ?_ ?_
                                 rotate_left
                                 · rintro w' ⟨s0, s1, s2, s3, s4⟩
                                   go_simp
                                   with_reducible rfl
                                 rotate_left
                                 · simp only [Act.put, List.setIfInBounds_toArray, List.set_cons_zero, List.set_cons_succ, i64_w, i32_w]
                                   rfl
                                 refine one_ (i := 8) (N := some 52) #[true, true, true, true, true, true, true, true, true, false, true, true, true, true, false, false] rfl rfl (one_of HT_.out (by kernel_rfl)) (by decide) (fun K hK => ?_)
                                 refine goes_ Try.func122 (by kernel_rfl) rfl #[.agg #[.slice (some ad1038) l0_0.length c0_0, .slice (some ad1042) l0_1.length c0_1, .slice A0_2 l0_2.length c0_2], .int .i64 0, .int .i64 x5_1, .int .i64 x5_1, .int .i64 x6_2] (by rfl) rfl rfl (by (try simp only [List.map_toArray, List.map_cons, List.map_nil]); first | done | rfl | (simp only [List.length_drop, List.length_take]; rfl)) ?_
                                 with_reducible refine (spec_l7Give.calls k2 _ _ l0_0 _ _ l0_1 _ _ l0_2 0 x5_1 x5_1 x6_2 t1043 _ ?side1 ?side2 ?side3 ?side4 ?side5 ?side6 A29.out).mono ?_
                                 (case side1 => repeat (first | exact (Kd.C_below HR0_0.out HB.out) | (with_reducible refine Kd.C_alloc ?_ _) | (with_reducible refine Kd.C_drewN ?_ _) | (with_reducible refine Kd.C_drew ?_)))
                                 (case side2 => exact HC0_0.out)
                                 (case side3 => repeat (first | exact (Kd.C_below HR0_1.out HB.out) | (with_reducible refine Kd.C_alloc ?_ _) | (with_reducible refine Kd.C_drewN ?_ _) | (with_reducible refine Kd.C_drew ?_)))
                                 (case side4 => exact HC0_1.out)
                                 (case side5 => repeat (first | exact (Kd.C_below HR0_2.out HB.out) | (with_reducible refine Kd.C_alloc ?_ _) | (with_reducible refine Kd.C_drewN ?_ _) | (with_reducible refine Kd.C_drew ?_)))
                                 (case side6 => exact HC0_2.out)
                                 rintro e w37 ⟨rfl, hb⟩
                                 have HS4_ := (hb.cell (World.block_lt_of_cell? _ _ (hHeld.2.2.2.2))).trans (hHeld.2.2.2.2)
                                 refine ⟨_, rfl, ?_⟩
                                 have n0_ := Aside0.mk (Kd.R_below (by (with_reducible repeat (first | apply Kd.R_alloc | apply Kd.R_drewN | apply Kd.R_drew)); exact HO_4.out) hb)
                                 have n1_ := Aside0.mk (blk_below (g := gb1033) (o := .cells #[.slice (some ad1038) l0_0.length c0_0, .slice (some ad1042) l0_1.length c0_1, .slice A0_2 l0_2.length c0_2] 26 (0, 0)) (by (with_reducible repeat (first | refine blk_drewN ?_ _ | refine blk_drew ?_ | refine blk_alloc ?_ _)); exact BK1033.out) hb)
                                 have n2_ := Aside0.mk (below_step (by repeat (first | (with_reducible first | exact HB.out | apply below_alloc | apply pw_below_drewN | apply below_drew1 | refine below_set ?_ GE1033.out) | exact HB.out)) hb)
                                 clear HO_4
                                 clear BK1033
                                 clear HB
                                 have HO_4 := n0_
                                 have BK1033 := n1_
                                 have HB := n2_
                                 clear n0_ n1_ n2_
                                 (try clear hb)
                                 (try clear hb2)
                                 (try clear hk)
                                 (try clear hi)
                                 refine hK.out _ _ ⟨(blk_cell BK1033.out 0).trans rfl, (blk_cell BK1033.out 1).trans rfl, (blk_cell BK1033.out 2).trans rfl, ((HB.out.cell (World.block_lt_of_cell? w _ hw1042_0)).trans hw1042_0), HS4_⟩ (fun hHeld => ?_)
                                 clear hK K
                                 refine norm_ (a' := ?_) ?_ ?_
                                 rotate_left
                                 · show Act.put _ (some 52) _ = _
                                   simp only [Act.put, List.setIfInBounds_toArray, List.set_cons_zero, List.set_cons_succ, i64_w, i32_w]
                                   rfl
                                 refine pure_ (i := 9) (N := some 53) (v := ?_) (a' := ?_) #[true, true, true, true, true, true, true, true, true, true, true, true, true, true, false, false] rfl rfl (any_of HT_.out (by kernel_rfl)) (fun _ _ _ h => h) (Or.inl ⟨by rfl, ?_⟩) ?_ ?_
                                 rotate_left
                                 · intro w'
                                   go_simp
                                   with_reducible rfl
                                 rotate_left
                                 · simp only [Act.put, List.setIfInBounds_toArray, List.set_cons_zero, List.set_cons_succ, i64_w, i32_w]
                                   rfl
                                 refine pure_ (i := 14) (N := some 58) (v := ?_) (a' := ?_) #[true, true, true, true, true, true, true, true, true, true, true, true, true, true, true, false] rfl rfl (any_of HT_.out (by kernel_rfl)) (fun _ _ _ h => h) (Or.inl ⟨by rfl, ?_⟩) ?_ ?_
                                 rotate_left
                                 · intro w'
                                   go_simp
                                   with_reducible rfl
                                 rotate_left
                                 · simp only [Act.put, List.setIfInBounds_toArray, List.set_cons_zero, List.set_cons_succ, i64_w, i32_w]
                                   rfl
                                 refine pure_ (i := 15) (N := some 7) (v := ?_) (a' := ?_) #[true, true, true, true, true, true, true, true, true, true, true, true, true, true, true, true] rfl rfl (any_of HT_.out (by kernel_rfl)) (fun _ _ _ h => h) (Or.inl ⟨by rfl, ?_⟩) ?_ ?_
                                 rotate_left
                                 · intro w'
                                   go_simp
                                   with_reducible rfl
                                 rotate_left
                                 · simp only [Act.put, List.setIfInBounds_toArray, List.set_cons_zero, List.set_cons_succ, i64_w, i32_w]
                                   rfl
                                 refine done_ (done_of HT_.out (by kernel_rfl)) ?_
                                 have p1045 : 0 ≤ (x5_1 : Int) := of_decide_eq_true (by first | (with_reducible assumption) | assumption)
                                 have q1045 : x5_1 < (x4_2.length : Int) := of_decide_eq_true (by first | (with_reducible assumption) | assumption)
                                 obtain ⟨ad1045, e1045, hx1045_0⟩ := Kd.at_int (Kd.R_reads' HO_4.out).2.2 x5_1 p1045 q1045
                                 obtain rfl : (⟨go23, 0, none⟩ : Addr) = ad1045 := (by injection e1045)
                                 (first | simp only [add_plain] at hx1045_0 | simp only [add_at] at hx1045_0 | simp only [Addr.add, Nat.zero_add] at hx1045_0 | skip)
                                 replace p1045 := eq_true p1045
                                 replace q1045 := eq_true q1045
                                 have p35 : 0 ≤ (x5_1 : Int) := of_decide_eq_true (by first | (with_reducible assumption) | assumption)
                                 have q35 : (x5_1 : Int) < ((x4_2.length : Int) : Int) := of_decide_eq_true (by first | (with_reducible assumption) | assumption)
                                 obtain ⟨hx35_0, hf35_0⟩ := Kd.R_celln 0 HO_4.out (x5_1 : Int) p35 q35
                                 replace p35 := eq_true p35
                                 replace q35 := eq_true q35
                                 obtain ⟨hy38_, hz38_⟩ := Kd.R_celln 0 HO_4.out (x5_1 : Int) (of_decide_eq_true (by first | (with_reducible assumption) | assumption)) (of_decide_eq_true (by first | (with_reducible assumption) | assumption))
                                 have HP38 := Kd.R_putg HO_4.out (x5_1 : Int) (wrap64 ((wrap64 ((rd l0_1 0) + t1043)) + (rd x4_2 x6_2)))
                                 try go_wp2_with (first | ((with_reducible refine gate_store (t := 3) (p := 75) rfl ?_); refine store_event (t := 3) (p := 75) (v := ?vo_w39) (w1 := (w37.setCell ⟨go23, (x5_1 : Int).toNat, none⟩ (.int .i64 (wrap64 ((wrap64 ((rd l0_1 0) + t1043)) + (rd x4_2 x6_2)))))) ?hg ?ho ?hn ?hr ?_; (case ho => rfl); (case hg => rfl); (case hn => rfl); (case hr => first | (go_simp; done) | (go_simp; rfl)); intro w39 hw; have hg : w37.grownBy w39 (some go23) := (by rw [hw]; exact HP38.2); have hp_ : Kd.R (Kd.int .i64) 3 w39 w.heap.size (fun _ => True) (.slice (some ⟨go23, 0, none⟩) x4_2.length co23) y1047 := (by rw [hw, Ny1047.out]; exact HP38.1); clear HP38; have n0_ := Aside0.mk (hp_); have n1_ := Aside0.mk (blk_grown (g := gb1033) (o := .cells #[.slice (some ad1038) l0_0.length c0_0, .slice (some ad1042) l0_1.length c0_1, .slice A0_2 l0_2.length c0_2] 26 (0, 0)) (by (with_reducible repeat (first | refine blk_drewN ?_ _ | refine blk_drew ?_ | refine blk_alloc ?_ _)); exact BK1033.out) hg (Kd.R_ne HO_4.out BK1033.out (by decide))); have n2_ := Aside0.mk ((by rw [hw]; exact below_set (HB.out) GB23.out : Below w.heap.size w w39)); clear HO_4; clear BK1033; clear HB; have HO_4 := n0_; have BK1033 := n1_; have HB := n2_; clear n0_ n1_ n2_; clear hg hw hp_))
                                 (try simp only [← hl4_2])
                                 go_roundg k2
                                 case measure => have := HK1.out; have := HK2.out; omega
                                 case rel => exact ⟨(y1047), (wrap64 (x6_2 + 1)), (by first | rfl | (simp; done) | (simp [*]; done)), H', ⟨by have := HK1.out; have := HK2.out; omega⟩, ⟨by (try simp only [hl4_2]); (with_reducible repeat (first | apply Kd.R_alloc | apply Kd.R_drewN | apply Kd.R_drew)); exact HO_4.out⟩, ⟨by (try simp only [hl4_2]); (with_reducible repeat (first | refine blk_drewN ?_ _ | refine blk_drew ?_ | refine blk_alloc ?_ _)); exact BK1033.out⟩, ⟨by repeat (first | (with_reducible first | exact HB.out | apply below_alloc | apply pw_below_drewN | apply below_drew1 | refine below_set ?_ GE1033.out) | exact HB.out)⟩⟩
                               · rw [if_neg c34] at H
                                 have c34b0 : decide ((rd x4_2 x5_1) < 0) = false := decide_eq_false c34
                                 clear c34
                                 by_cases c40 : (wrap64 ((wrap64 ((rd l0_1 0) + t1043)) + (rd x4_2 x6_2))) < (rd x4_2 x5_1)
                                 · rw [if_pos c40] at H
                                   have c40b0 : decide ((wrap64 ((wrap64 ((rd l0_1 0) + t1043)) + (rd x4_2 x6_2))) < (rd x4_2 x5_1)) = true := decide_eq_true c40
                                   clear c40
                                   obtain ⟨y1048, hy1048⟩ : ∃ y_ : List Int, y_ = (x4_2.set (x5_1 : Int).toNat (wrap64 ((wrap64 ((rd l0_1 0) + t1043)) + (rd x4_2 x6_2)))) := ⟨_, rfl⟩
                                   replace H : (spec_l7Best.l1 k2 (l0_0.length : Int) y1048 x5_1 (wrap64 (x6_2 + 1)) l0_0 l0_1 l0_2) = some r := by first | (rw [hy1048]; with_reducible exact H) | (have H2_ := (Option.bind_some _ _).symm.trans H; rw [hy1048]; with_reducible exact H2_) | (have H2_ := (Option.bind_some _ _).symm.trans H; with_reducible exact H2_) | with_reducible exact H | (rw [hy1048]; exact H) | exact H
                                   have Ny1048 := Aside0.mk hy1048
                                   clear hy1048
                                   have H' := Aside0.mk H
                                   clear H
                                   try go_wp2
                                   have n0_ := Aside0.mk (Kd.R_drew HO_4.out)
                                   have n1_ := Aside0.mk (blk_drew BK1033.out)
                                   have n2_ := Aside0.mk (below_drew1 HB.out)
                                   clear HO_4
                                   clear BK1033
                                   clear HB
                                   have HO_4 := n0_
                                   have BK1033 := n1_
                                   have HB := n2_
                                   clear n0_ n1_ n2_
                                   have p1042 : 0 ≤ (0 : Int) := (by omega)
                                   have q1042 : 0 < (l0_1.length : Int) := of_decide_eq_true (by first | (with_reducible assumption) | assumption)
                                   obtain ⟨ad1042, e1042, hx1042_0⟩ := Kd.at_int HR0_1.out 0 p1042 q1042
                                   have hw1042_0 := hx1042_0
                                   (try rw [show ((0 : Int)).toNat = 0 from rfl] at hw1042_0)
                                   (try rw [show 0 * 1 = 0 from rfl] at hw1042_0)
                                   (try rw [Addr.add_zero'] at hw1042_0)
                                   cases e1042
                                   have qi1042 : (0 < l0_1.length) = True := eq_true (by omega)
                                   (try rw [show ((0 : Int)).toNat = 0 from rfl] at hx1042_0)
                                   (try rw [Addr.add_zero'] at hx1042_0)
                                   replace hx1042_0 := (HB.out.cell (World.block_lt_of_cell? w _ hx1042_0)).trans hx1042_0
                                   replace p1042 := eq_true p1042
                                   replace q1042 := eq_true q1042
                                   have p1044 : 0 ≤ (x6_2 : Int) := of_decide_eq_true (by first | (with_reducible assumption) | assumption)
                                   have q1044 : x6_2 < (x4_2.length : Int) := of_decide_eq_true (by first | (with_reducible assumption) | assumption)
                                   obtain ⟨ad1044, e1044, hx1044_0⟩ := Kd.at_int (Kd.R_reads' HO_4.out).2.2 x6_2 p1044 q1044
                                   obtain rfl : (⟨go23, 0, none⟩ : Addr) = ad1044 := (by injection e1044)
                                   (first | simp only [add_plain] at hx1044_0 | simp only [add_at] at hx1044_0 | simp only [Addr.add, Nat.zero_add] at hx1044_0 | skip)
                                   replace p1044 := eq_true p1044
                                   replace q1044 := eq_true q1044
                                   refine start_ (n := 16) (S := fun w' => w'.cell? ⟨gb1033, 0, none⟩ = some (.slice (some ad1038) l0_0.length c0_0) ∧ w'.cell? ⟨gb1033, 1, none⟩ = some (.slice (some ad1042) l0_1.length c0_1) ∧ w'.cell? ⟨gb1033, 2, none⟩ = some (.slice A0_2 l0_2.length c0_2) ∧ w'.cell? ad1042 = some (.int .i64 (rd l0_1 0)) ∧ w'.cell? ⟨go23, (x6_2).toNat, none⟩ = some (.int .i64 (rd x4_2 x6_2))) (ds := []) #[false, false, false, false, false, false, false, false, false, false, false, false, false, false, false, false] (by kernel_rfl) rfl rfl ⟨(blk_cell BK1033.out 0).trans rfl, (blk_cell BK1033.out 1).trans rfl, (blk_cell BK1033.out 2).trans rfl, ((HB.out.cell (World.block_lt_of_cell? w _ hw1042_0)).trans hw1042_0), hx1044_0⟩ (fun hHeld => ?_); refine with_tabW spec_l7Best.tab12 spec_l7Best.bits12 (fun HT_ HW_ => ?_)
                                   generalize wr.drew = w42 at HO_4 BK1033 HB hx1042_0 hx1044_0 hHeld ⊢
                                   refine pure_ (i := 0) (N := some 44) (v := ?_) (a' := ?_) #[true, false, false, false, false, false, false, false, false, false, false, false, false, false, false, false] rfl rfl (any_of HT_.out (by kernel_rfl)) (fun _ _ _ h => h) (Or.inl ⟨by rfl, ?_⟩) ?_ ?_
                                   rotate_left
                                   · intro w'
                                     go_simp
                                     with_reducible rfl
                                   rotate_left
                                   · simp only [Act.put, List.setIfInBounds_toArray, List.set_cons_zero, List.set_cons_succ, i64_w, i32_w]
                                     rfl
                                   refine pure_ (i := 5) (N := some 49) (v := ?_) (a' := ?_) #[true, false, false, false, false, true, false, false, false, false, false, false, false, false, false, false] rfl rfl (any_of HT_.out (by kernel_rfl)) (fun _ _ _ h => h) (Or.inl ⟨by rfl, ?_⟩) ?_ ?_
                                   rotate_left
                                   · intro w'
                                     go_simp
                                     with_reducible rfl
                                   rotate_left
                                   · simp only [Act.put, List.setIfInBounds_toArray, List.set_cons_zero, List.set_cons_succ, i64_w, i32_w]
                                     rfl
                                   refine pure_ (i := 6) (N := some 50) (v := ?_) (a' := ?_) #[true, false, false, false, false, true, true, false, false, false, false, false, false, false, false, false] rfl rfl (any_of HT_.out (by kernel_rfl)) (fun _ _ _ h => h) (Or.inl ⟨by rfl, ?_⟩) ?_ ?_
                                   rotate_left
                                   · intro w'
                                     go_simp
                                     with_reducible rfl
                                   rotate_left
                                   · simp only [Act.put, List.setIfInBounds_toArray, List.set_cons_zero, List.set_cons_succ, i64_w, i32_w]
                                     rfl
                                   refine pure_ (i := 7) (N := some 51) (v := ?_) (a' := ?_) #[true, false, false, false, false, true, true, true, false, false, false, false, false, false, false, false] rfl rfl (any_of HT_.out (by kernel_rfl)) (fun _ _ _ h => h) (Or.inl ⟨by rfl, ?_⟩) ?_ ?_
                                   rotate_left
                                   · intro w'
                                     go_simp
                                     with_reducible rfl
                                   rotate_left
                                   · simp only [Act.put, List.setIfInBounds_toArray, List.set_cons_zero, List.set_cons_succ, i64_w, i32_w]
                                     rfl
                                   refine pure_ (i := 10) (N := some 54) (v := ?_) (a' := ?_) #[true, false, false, false, false, true, true, true, false, false, true, false, false, false, false, false] rfl rfl (any_of HT_.out (by kernel_rfl)) (fun _ _ _ h => h) (Or.inl ⟨by rfl, ?_⟩) ?_ ?_
                                   rotate_left
                                   · intro w'
                                     go_simp
                                     with_reducible rfl
                                   rotate_left
                                   · simp only [Act.put, List.setIfInBounds_toArray, List.set_cons_zero, List.set_cons_succ, i64_w, i32_w]
                                     rfl
                                   refine pure_ (i := 11) (N := some 55) (v := ?_) (a' := ?_) #[true, false, false, false, false, true, true, true, false, false, true, true, false, false, false, false] rfl rfl (any_of HT_.out (by kernel_rfl)) (fun _ _ _ h => h) (Or.inl ⟨by rfl, ?_⟩) ?_ ?_
                                   rotate_left
                                   · intro w'
                                     go_simp
                                     with_reducible rfl
                                   rotate_left
                                   · simp only [Act.put, List.setIfInBounds_toArray, List.set_cons_zero, List.set_cons_succ, i64_w, i32_w]
                                     rfl
                                   refine pure_ (i := 12) (N := some 56) (v := ?_) (a' := ?_) #[true, false, false, false, false, true, true, true, false, false, true, true, true, false, false, false] rfl rfl (any_of HT_.out (by kernel_rfl)) (fun _ _ _ h => h) (Or.inl ⟨by rfl, ?_⟩) ?_ ?_
                                   rotate_left
                                   · intro w'
                                     go_simp
                                     with_reducible rfl
                                   rotate_left
                                   · simp only [Act.put, List.setIfInBounds_toArray, List.set_cons_zero, List.set_cons_succ, i64_w, i32_w]
                                     rfl
                                   refine take_ (i := 1) (N := some 45) (v := ?_) (a' := ?_) #[true, true, false, false, false, true, true, true, false, false, true, true, true, false, false, false] rfl rfl (take_ofW HT_.out HW_.out (by kernel_rfl)) (fun _ _ _ h => h) (Or.inl ⟨by rfl, ?_⟩) hHeld ?_ ?_
                                   rotate_left
                                   · rintro w' ⟨s0, s1, s2, s3, s4⟩
                                     go_simp
                                     with_reducible rfl
                                   rotate_left
                                   · simp only [Act.put, List.setIfInBounds_toArray, List.set_cons_zero, List.set_cons_succ, i64_w, i32_w]
                                     rfl
                                   refine pure_ (i := 2) (N := some 46) (v := ?_) (a' := ?_) #[true, true, true, false, false, true, true, true, false, false, true, true, true, false, false, false] rfl rfl (any_of HT_.out (by kernel_rfl)) (fun _ _ _ h => h) (Or.inl ⟨by rfl, ?_⟩) ?_ ?_
                                   rotate_left
                                   · intro w'
                                     go_simp
                                     with_reducible rfl
                                   rotate_left
                                   · simp only [Act.put, List.setIfInBounds_toArray, List.set_cons_zero, List.set_cons_succ, i64_w, i32_w]
                                     rfl
                                   refine take_ (i := 3) (N := some 47) (v := ?_) (a' := ?_) #[true, true, true, true, false, true, true, true, false, false, true, true, true, false, false, false] rfl rfl (take_ofW HT_.out HW_.out (by kernel_rfl)) (fun _ _ _ h => h) (Or.inl ⟨by rfl, ?_⟩) hHeld ?_ ?_
                                   rotate_left
                                   · rintro w' ⟨s0, s1, s2, s3, s4⟩
                                     go_simp
                                     with_reducible rfl
                                   rotate_left
                                   · simp only [Act.put, List.setIfInBounds_toArray, List.set_cons_zero, List.set_cons_succ, i64_w, i32_w]
                                     rfl
                                   refine take_ (i := 4) (N := some 48) (v := ?_) (a' := ?_) #[true, true, true, true, true, true, true, true, false, false, true, true, true, false, false, false] rfl rfl (take_ofW HT_.out HW_.out (by kernel_rfl)) (fun _ _ _ h => h) (Or.inl ⟨by rfl, ?_⟩) hHeld ?_ ?_
                                   rotate_left
                                   · rintro w' ⟨s0, s1, s2, s3, s4⟩
                                     go_simp
                                     with_reducible rfl
                                   rotate_left
                                   · simp only [Act.put, List.setIfInBounds_toArray, List.set_cons_zero, List.set_cons_succ, i64_w, i32_w]
                                     rfl
                                   refine take_ (i := 13) (N := some 57) (v := ?_) (a' := ?_) #[true, true, true, true, true, true, true, true, false, false, true, true, true, true, false, false] rfl rfl (take_ofW HT_.out HW_.out (by kernel_rfl)) (fun _ _ _ h => h) (Or.inl ⟨by rfl, ?_⟩) hHeld ?_ ?_
                                   rotate_left
                                   · rintro w' ⟨s0, s1, s2, s3, s4⟩
                                     go_simp
                                     with_reducible rfl
                                   rotate_left
                                   · simp only [Act.put, List.setIfInBounds_toArray, List.set_cons_zero, List.set_cons_succ, i64_w, i32_w]
                                     rfl
                                   refine one_ (i := 8) (N := some 52) #[true, true, true, true, true, true, true, true, true, false, true, true, true, true, false, false] rfl rfl (one_of HT_.out (by kernel_rfl)) (by decide) (fun K hK => ?_)
                                   refine goes_ Try.func122 (by kernel_rfl) rfl #[.agg #[.slice (some ad1038) l0_0.length c0_0, .slice (some ad1042) l0_1.length c0_1, .slice A0_2 l0_2.length c0_2], .int .i64 0, .int .i64 x5_1, .int .i64 x5_1, .int .i64 x6_2] (by rfl) rfl rfl (by (try simp only [List.map_toArray, List.map_cons, List.map_nil]); first | done | rfl | (simp only [List.length_drop, List.length_take]; rfl)) ?_
                                   with_reducible refine (spec_l7Give.calls k2 _ _ l0_0 _ _ l0_1 _ _ l0_2 0 x5_1 x5_1 x6_2 t1043 _ ?side1 ?side2 ?side3 ?side4 ?side5 ?side6 A29.out).mono ?_
                                   (case side1 => repeat (first | exact (Kd.C_below HR0_0.out HB.out) | (with_reducible refine Kd.C_alloc ?_ _) | (with_reducible refine Kd.C_drewN ?_ _) | (with_reducible refine Kd.C_drew ?_)))
                                   (case side2 => exact HC0_0.out)
                                   (case side3 => repeat (first | exact (Kd.C_below HR0_1.out HB.out) | (with_reducible refine Kd.C_alloc ?_ _) | (with_reducible refine Kd.C_drewN ?_ _) | (with_reducible refine Kd.C_drew ?_)))
                                   (case side4 => exact HC0_1.out)
                                   (case side5 => repeat (first | exact (Kd.C_below HR0_2.out HB.out) | (with_reducible refine Kd.C_alloc ?_ _) | (with_reducible refine Kd.C_drewN ?_ _) | (with_reducible refine Kd.C_drew ?_)))
                                   (case side6 => exact HC0_2.out)
                                   rintro e w43 ⟨rfl, hb⟩
                                   have HS4_ := (hb.cell (World.block_lt_of_cell? _ _ (hHeld.2.2.2.2))).trans (hHeld.2.2.2.2)
                                   refine ⟨_, rfl, ?_⟩
                                   have n0_ := Aside0.mk (Kd.R_below (by (with_reducible repeat (first | apply Kd.R_alloc | apply Kd.R_drewN | apply Kd.R_drew)); exact HO_4.out) hb)
                                   have n1_ := Aside0.mk (blk_below (g := gb1033) (o := .cells #[.slice (some ad1038) l0_0.length c0_0, .slice (some ad1042) l0_1.length c0_1, .slice A0_2 l0_2.length c0_2] 26 (0, 0)) (by (with_reducible repeat (first | refine blk_drewN ?_ _ | refine blk_drew ?_ | refine blk_alloc ?_ _)); exact BK1033.out) hb)
                                   have n2_ := Aside0.mk (below_step (by repeat (first | (with_reducible first | exact HB.out | apply below_alloc | apply pw_below_drewN | apply below_drew1 | refine below_set ?_ GE1033.out) | exact HB.out)) hb)
                                   clear HO_4
                                   clear BK1033
                                   clear HB
                                   have HO_4 := n0_
                                   have BK1033 := n1_
                                   have HB := n2_
                                   clear n0_ n1_ n2_
                                   (try clear hb)
                                   (try clear hb2)
                                   (try clear hk)
                                   (try clear hi)
                                   refine hK.out _ _ ⟨(blk_cell BK1033.out 0).trans rfl, (blk_cell BK1033.out 1).trans rfl, (blk_cell BK1033.out 2).trans rfl, ((HB.out.cell (World.block_lt_of_cell? w _ hw1042_0)).trans hw1042_0), HS4_⟩ (fun hHeld => ?_)
                                   clear hK K
                                   refine norm_ (a' := ?_) ?_ ?_
                                   rotate_left
                                   · show Act.put _ (some 52) _ = _
                                     simp only [Act.put, List.setIfInBounds_toArray, List.set_cons_zero, List.set_cons_succ, i64_w, i32_w]
                                     rfl
                                   refine pure_ (i := 9) (N := some 53) (v := ?_) (a' := ?_) #[true, true, true, true, true, true, true, true, true, true, true, true, true, true, false, false] rfl rfl (any_of HT_.out (by kernel_rfl)) (fun _ _ _ h => h) (Or.inl ⟨by rfl, ?_⟩) ?_ ?_
                                   rotate_left
                                   · intro w'
                                     go_simp
                                     with_reducible rfl
                                   rotate_left
                                   · simp only [Act.put, List.setIfInBounds_toArray, List.set_cons_zero, List.set_cons_succ, i64_w, i32_w]
                                     rfl
                                   refine pure_ (i := 14) (N := some 58) (v := ?_) (a' := ?_) #[true, true, true, true, true, true, true, true, true, true, true, true, true, true, true, false] rfl rfl (any_of HT_.out (by kernel_rfl)) (fun _ _ _ h => h) (Or.inl ⟨by rfl, ?_⟩) ?_ ?_
                                   rotate_left
                                   · intro w'
                                     go_simp
                                     with_reducible rfl
                                   rotate_left
                                   · simp only [Act.put, List.setIfInBounds_toArray, List.set_cons_zero, List.set_cons_succ, i64_w, i32_w]
                                     rfl
                                   refine pure_ (i := 15) (N := some 7) (v := ?_) (a' := ?_) #[true, true, true, true, true, true, true, true, true, true, true, true, true, true, true, true] rfl rfl (any_of HT_.out (by kernel_rfl)) (fun _ _ _ h => h) (Or.inl ⟨by rfl, ?_⟩) ?_ ?_
                                   rotate_left
                                   · intro w'
                                     go_simp
                                     with_reducible rfl
                                   rotate_left
                                   · simp only [Act.put, List.setIfInBounds_toArray, List.set_cons_zero, List.set_cons_succ, i64_w, i32_w]
                                     rfl
                                   refine done_ (done_of HT_.out (by kernel_rfl)) ?_
                                   have p1045 : 0 ≤ (x5_1 : Int) := of_decide_eq_true (by first | (with_reducible assumption) | assumption)
                                   have q1045 : x5_1 < (x4_2.length : Int) := of_decide_eq_true (by first | (with_reducible assumption) | assumption)
                                   obtain ⟨ad1045, e1045, hx1045_0⟩ := Kd.at_int (Kd.R_reads' HO_4.out).2.2 x5_1 p1045 q1045
                                   obtain rfl : (⟨go23, 0, none⟩ : Addr) = ad1045 := (by injection e1045)
                                   (first | simp only [add_plain] at hx1045_0 | simp only [add_at] at hx1045_0 | simp only [Addr.add, Nat.zero_add] at hx1045_0 | skip)
                                   replace p1045 := eq_true p1045
                                   replace q1045 := eq_true q1045
                                   have p1046 : 0 ≤ (x5_1 : Int) := of_decide_eq_true (by first | (with_reducible assumption) | assumption)
                                   have q1046 : x5_1 < (x4_2.length : Int) := of_decide_eq_true (by first | (with_reducible assumption) | assumption)
                                   obtain ⟨ad1046, e1046, hx1046_0⟩ := Kd.at_int (Kd.R_reads' HO_4.out).2.2 x5_1 p1046 q1046
                                   obtain rfl : (⟨go23, 0, none⟩ : Addr) = ad1046 := (by injection e1046)
                                   (first | simp only [add_plain] at hx1046_0 | simp only [add_at] at hx1046_0 | simp only [Addr.add, Nat.zero_add] at hx1046_0 | skip)
                                   replace p1046 := eq_true p1046
                                   replace q1046 := eq_true q1046
                                   have p41 : 0 ≤ (x5_1 : Int) := of_decide_eq_true (by first | (with_reducible assumption) | assumption)
                                   have q41 : (x5_1 : Int) < ((x4_2.length : Int) : Int) := of_decide_eq_true (by first | (with_reducible assumption) | assumption)
                                   obtain ⟨hx41_0, hf41_0⟩ := Kd.R_celln 0 HO_4.out (x5_1 : Int) p41 q41
                                   replace p41 := eq_true p41
                                   replace q41 := eq_true q41
                                   obtain ⟨hy44_, hz44_⟩ := Kd.R_celln 0 HO_4.out (x5_1 : Int) (of_decide_eq_true (by first | (with_reducible assumption) | assumption)) (of_decide_eq_true (by first | (with_reducible assumption) | assumption))
                                   have HP44 := Kd.R_putg HO_4.out (x5_1 : Int) (wrap64 ((wrap64 ((rd l0_1 0) + t1043)) + (rd x4_2 x6_2)))
                                   try go_wp2_with (first | ((with_reducible refine gate_store (t := 3) (p := 75) rfl ?_); refine store_event (t := 3) (p := 75) (v := ?vo_w45) (w1 := (w43.setCell ⟨go23, (x5_1 : Int).toNat, none⟩ (.int .i64 (wrap64 ((wrap64 ((rd l0_1 0) + t1043)) + (rd x4_2 x6_2)))))) ?hg ?ho ?hn ?hr ?_; (case ho => rfl); (case hg => rfl); (case hn => rfl); (case hr => first | (go_simp; done) | (go_simp; rfl)); intro w45 hw; have hg : w43.grownBy w45 (some go23) := (by rw [hw]; exact HP44.2); have hp_ : Kd.R (Kd.int .i64) 3 w45 w.heap.size (fun _ => True) (.slice (some ⟨go23, 0, none⟩) x4_2.length co23) y1048 := (by rw [hw, Ny1048.out]; exact HP44.1); clear HP44; have n0_ := Aside0.mk (hp_); have n1_ := Aside0.mk (blk_grown (g := gb1033) (o := .cells #[.slice (some ad1038) l0_0.length c0_0, .slice (some ad1042) l0_1.length c0_1, .slice A0_2 l0_2.length c0_2] 26 (0, 0)) (by (with_reducible repeat (first | refine blk_drewN ?_ _ | refine blk_drew ?_ | refine blk_alloc ?_ _)); exact BK1033.out) hg (Kd.R_ne HO_4.out BK1033.out (by decide))); have n2_ := Aside0.mk ((by rw [hw]; exact below_set (HB.out) GB23.out : Below w.heap.size w w45)); clear HO_4; clear BK1033; clear HB; have HO_4 := n0_; have BK1033 := n1_; have HB := n2_; clear n0_ n1_ n2_; clear hg hw hp_))
                                   (try simp only [← hl4_2])
                                   go_roundg k2
                                   case measure => have := HK1.out; have := HK2.out; omega
                                   case rel => exact ⟨(y1048), (wrap64 (x6_2 + 1)), (by first | rfl | (simp; done) | (simp [*]; done)), H', ⟨by have := HK1.out; have := HK2.out; omega⟩, ⟨by (try simp only [hl4_2]); (with_reducible repeat (first | apply Kd.R_alloc | apply Kd.R_drewN | apply Kd.R_drew)); exact HO_4.out⟩, ⟨by (try simp only [hl4_2]); (with_reducible repeat (first | refine blk_drewN ?_ _ | refine blk_drew ?_ | refine blk_alloc ?_ _)); exact BK1033.out⟩, ⟨by repeat (first | (with_reducible first | exact HB.out | apply below_alloc | apply pw_below_drewN | apply below_drew1 | refine below_set ?_ GE1033.out) | exact HB.out)⟩⟩
                                 · rw [if_neg c40] at H
                                   have c40b0 : decide ((wrap64 ((wrap64 ((rd l0_1 0) + t1043)) + (rd x4_2 x6_2))) < (rd x4_2 x5_1)) = false := decide_eq_false c40
                                   clear c40
                                   have H' := Aside0.mk H
                                   clear H
                                   try go_wp2
                                   have n0_ := Aside0.mk (Kd.R_drew HO_4.out)
                                   have n1_ := Aside0.mk (blk_drew BK1033.out)
                                   have n2_ := Aside0.mk (below_drew1 HB.out)
                                   clear HO_4
                                   clear BK1033
                                   clear HB
                                   have HO_4 := n0_
                                   have BK1033 := n1_
                                   have HB := n2_
                                   clear n0_ n1_ n2_
                                   have p1042 : 0 ≤ (0 : Int) := (by omega)
                                   have q1042 : 0 < (l0_1.length : Int) := of_decide_eq_true (by first | (with_reducible assumption) | assumption)
                                   obtain ⟨ad1042, e1042, hx1042_0⟩ := Kd.at_int HR0_1.out 0 p1042 q1042
                                   have hw1042_0 := hx1042_0
                                   (try rw [show ((0 : Int)).toNat = 0 from rfl] at hw1042_0)
                                   (try rw [show 0 * 1 = 0 from rfl] at hw1042_0)
                                   (try rw [Addr.add_zero'] at hw1042_0)
                                   cases e1042
                                   have qi1042 : (0 < l0_1.length) = True := eq_true (by omega)
                                   (try rw [show ((0 : Int)).toNat = 0 from rfl] at hx1042_0)
                                   (try rw [Addr.add_zero'] at hx1042_0)
                                   replace hx1042_0 := (HB.out.cell (World.block_lt_of_cell? w _ hx1042_0)).trans hx1042_0
                                   replace p1042 := eq_true p1042
                                   replace q1042 := eq_true q1042
                                   have p1044 : 0 ≤ (x6_2 : Int) := of_decide_eq_true (by first | (with_reducible assumption) | assumption)
                                   have q1044 : x6_2 < (x4_2.length : Int) := of_decide_eq_true (by first | (with_reducible assumption) | assumption)
                                   obtain ⟨ad1044, e1044, hx1044_0⟩ := Kd.at_int (Kd.R_reads' HO_4.out).2.2 x6_2 p1044 q1044
                                   obtain rfl : (⟨go23, 0, none⟩ : Addr) = ad1044 := (by injection e1044)
                                   (first | simp only [add_plain] at hx1044_0 | simp only [add_at] at hx1044_0 | simp only [Addr.add, Nat.zero_add] at hx1044_0 | skip)
                                   replace p1044 := eq_true p1044
                                   replace q1044 := eq_true q1044
                                   refine start_ (n := 16) (S := fun w' => w'.cell? ⟨gb1033, 0, none⟩ = some (.slice (some ad1038) l0_0.length c0_0) ∧ w'.cell? ⟨gb1033, 1, none⟩ = some (.slice (some ad1042) l0_1.length c0_1) ∧ w'.cell? ⟨gb1033, 2, none⟩ = some (.slice A0_2 l0_2.length c0_2) ∧ w'.cell? ad1042 = some (.int .i64 (rd l0_1 0)) ∧ w'.cell? ⟨go23, (x6_2).toNat, none⟩ = some (.int .i64 (rd x4_2 x6_2))) (ds := []) #[false, false, false, false, false, false, false, false, false, false, false, false, false, false, false, false] (by kernel_rfl) rfl rfl ⟨(blk_cell BK1033.out 0).trans rfl, (blk_cell BK1033.out 1).trans rfl, (blk_cell BK1033.out 2).trans rfl, ((HB.out.cell (World.block_lt_of_cell? w _ hw1042_0)).trans hw1042_0), hx1044_0⟩ (fun hHeld => ?_); refine with_tabW spec_l7Best.tab12 spec_l7Best.bits12 (fun HT_ HW_ => ?_)
                                   generalize wr.drew = w46 at HO_4 BK1033 HB hx1042_0 hx1044_0 hHeld ⊢
                                   refine pure_ (i := 0) (N := some 44) (v := ?_) (a' := ?_) #[true, false, false, false, false, false, false, false, false, false, false, false, false, false, false, false] rfl rfl (any_of HT_.out (by kernel_rfl)) (fun _ _ _ h => h) (Or.inl ⟨by rfl, ?_⟩) ?_ ?_
                                   rotate_left
                                   · intro w'
                                     go_simp
                                     with_reducible rfl
                                   rotate_left
                                   · simp only [Act.put, List.setIfInBounds_toArray, List.set_cons_zero, List.set_cons_succ, i64_w, i32_w]
                                     rfl
                                   refine pure_ (i := 5) (N := some 49) (v := ?_) (a' := ?_) #[true, false, false, false, false, true, false, false, false, false, false, false, false, false, false, false] rfl rfl (any_of HT_.out (by kernel_rfl)) (fun _ _ _ h => h) (Or.inl ⟨by rfl, ?_⟩) ?_ ?_
                                   rotate_left
                                   · intro w'
                                     go_simp
                                     with_reducible rfl
                                   rotate_left
                                   · simp only [Act.put, List.setIfInBounds_toArray, List.set_cons_zero, List.set_cons_succ, i64_w, i32_w]
                                     rfl
                                   refine pure_ (i := 6) (N := some 50) (v := ?_) (a' := ?_) #[true, false, false, false, false, true, true, false, false, false, false, false, false, false, false, false] rfl rfl (any_of HT_.out (by kernel_rfl)) (fun _ _ _ h => h) (Or.inl ⟨by rfl, ?_⟩) ?_ ?_
                                   rotate_left
                                   · intro w'
                                     go_simp
                                     with_reducible rfl
                                   rotate_left
                                   · simp only [Act.put, List.setIfInBounds_toArray, List.set_cons_zero, List.set_cons_succ, i64_w, i32_w]
                                     rfl
                                   refine pure_ (i := 7) (N := some 51) (v := ?_) (a' := ?_) #[true, false, false, false, false, true, true, true, false, false, false, false, false, false, false, false] rfl rfl (any_of HT_.out (by kernel_rfl)) (fun _ _ _ h => h) (Or.inl ⟨by rfl, ?_⟩) ?_ ?_
                                   rotate_left
                                   · intro w'
                                     go_simp
                                     with_reducible rfl
                                   rotate_left
                                   · simp only [Act.put, List.setIfInBounds_toArray, List.set_cons_zero, List.set_cons_succ, i64_w, i32_w]
                                     rfl
                                   refine pure_ (i := 10) (N := some 54) (v := ?_) (a' := ?_) #[true, false, false, false, false, true, true, true, false, false, true, false, false, false, false, false] rfl rfl (any_of HT_.out (by kernel_rfl)) (fun _ _ _ h => h) (Or.inl ⟨by rfl, ?_⟩) ?_ ?_
                                   rotate_left
                                   · intro w'
                                     go_simp
                                     with_reducible rfl
                                   rotate_left
                                   · simp only [Act.put, List.setIfInBounds_toArray, List.set_cons_zero, List.set_cons_succ, i64_w, i32_w]
                                     rfl
                                   refine pure_ (i := 11) (N := some 55) (v := ?_) (a' := ?_) #[true, false, false, false, false, true, true, true, false, false, true, true, false, false, false, false] rfl rfl (any_of HT_.out (by kernel_rfl)) (fun _ _ _ h => h) (Or.inl ⟨by rfl, ?_⟩) ?_ ?_
                                   rotate_left
                                   · intro w'
                                     go_simp
                                     with_reducible rfl
                                   rotate_left
                                   · simp only [Act.put, List.setIfInBounds_toArray, List.set_cons_zero, List.set_cons_succ, i64_w, i32_w]
                                     rfl
                                   refine pure_ (i := 12) (N := some 56) (v := ?_) (a' := ?_) #[true, false, false, false, false, true, true, true, false, false, true, true, true, false, false, false] rfl rfl (any_of HT_.out (by kernel_rfl)) (fun _ _ _ h => h) (Or.inl ⟨by rfl, ?_⟩) ?_ ?_
                                   rotate_left
                                   · intro w'
                                     go_simp
                                     with_reducible rfl
                                   rotate_left
                                   · simp only [Act.put, List.setIfInBounds_toArray, List.set_cons_zero, List.set_cons_succ, i64_w, i32_w]
                                     rfl
                                   refine take_ (i := 1) (N := some 45) (v := ?_) (a' := ?_) #[true, true, false, false, false, true, true, true, false, false, true, true, true, false, false, false] rfl rfl (take_ofW HT_.out HW_.out (by kernel_rfl)) (fun _ _ _ h => h) (Or.inl ⟨by rfl, ?_⟩) hHeld ?_ ?_
                                   rotate_left
                                   · rintro w' ⟨s0, s1, s2, s3, s4⟩
                                     go_simp
                                     with_reducible rfl
                                   rotate_left
                                   · simp only [Act.put, List.setIfInBounds_toArray, List.set_cons_zero, List.set_cons_succ, i64_w, i32_w]
                                     rfl
                                   refine pure_ (i := 2) (N := some 46) (v := ?_) (a' := ?_) #[true, true, true, false, false, true, true, true, false, false, true, true, true, false, false, false] rfl rfl (any_of HT_.out (by kernel_rfl)) (fun _ _ _ h => h) (Or.inl ⟨by rfl, ?_⟩) ?_ ?_
                                   rotate_left
                                   · intro w'
                                     go_simp
                                     with_reducible rfl
                                   rotate_left
                                   · simp only [Act.put, List.setIfInBounds_toArray, List.set_cons_zero, List.set_cons_succ, i64_w, i32_w]
                                     rfl
                                   refine take_ (i := 3) (N := some 47) (v := ?_) (a' := ?_) #[true, true, true, true, false, true, true, true, false, false, true, true, true, false, false, false] rfl rfl (take_ofW HT_.out HW_.out (by kernel_rfl)) (fun _ _ _ h => h) (Or.inl ⟨by rfl, ?_⟩) hHeld ?_ ?_
                                   rotate_left
                                   · rintro w' ⟨s0, s1, s2, s3, s4⟩
                                     go_simp
                                     with_reducible rfl
                                   rotate_left
                                   · simp only [Act.put, List.setIfInBounds_toArray, List.set_cons_zero, List.set_cons_succ, i64_w, i32_w]
                                     rfl
                                   refine take_ (i := 4) (N := some 48) (v := ?_) (a' := ?_) #[true, true, true, true, true, true, true, true, false, false, true, true, true, false, false, false] rfl rfl (take_ofW HT_.out HW_.out (by kernel_rfl)) (fun _ _ _ h => h) (Or.inl ⟨by rfl, ?_⟩) hHeld ?_ ?_
                                   rotate_left
                                   · rintro w' ⟨s0, s1, s2, s3, s4⟩
                                     go_simp
                                     with_reducible rfl
                                   rotate_left
                                   · simp only [Act.put, List.setIfInBounds_toArray, List.set_cons_zero, List.set_cons_succ, i64_w, i32_w]
                                     rfl
                                   refine take_ (i := 13) (N := some 57) (v := ?_) (a' := ?_) #[true, true, true, true, true, true, true, true, false, false, true, true, true, true, false, false] rfl rfl (take_ofW HT_.out HW_.out (by kernel_rfl)) (fun _ _ _ h => h) (Or.inl ⟨by rfl, ?_⟩) hHeld ?_ ?_
                                   rotate_left
                                   · rintro w' ⟨s0, s1, s2, s3, s4⟩
                                     go_simp
                                     with_reducible rfl
                                   rotate_left
                                   · simp only [Act.put, List.setIfInBounds_toArray, List.set_cons_zero, List.set_cons_succ, i64_w, i32_w]
                                     rfl
                                   refine one_ (i := 8) (N := some 52) #[true, true, true, true, true, true, true, true, true, false, true, true, true, true, false, false] rfl rfl (one_of HT_.out (by kernel_rfl)) (by decide) (fun K hK => ?_)
                                   refine goes_ Try.func122 (by kernel_rfl) rfl #[.agg #[.slice (some ad1038) l0_0.length c0_0, .slice (some ad1042) l0_1.length c0_1, .slice A0_2 l0_2.length c0_2], .int .i64 0, .int .i64 x5_1, .int .i64 x5_1, .int .i64 x6_2] (by rfl) rfl rfl (by (try simp only [List.map_toArray, List.map_cons, List.map_nil]); first | done | rfl | (simp only [List.length_drop, List.length_take]; rfl)) ?_
                                   with_reducible refine (spec_l7Give.calls k2 _ _ l0_0 _ _ l0_1 _ _ l0_2 0 x5_1 x5_1 x6_2 t1043 _ ?side1 ?side2 ?side3 ?side4 ?side5 ?side6 A29.out).mono ?_
                                   (case side1 => repeat (first | exact (Kd.C_below HR0_0.out HB.out) | (with_reducible refine Kd.C_alloc ?_ _) | (with_reducible refine Kd.C_drewN ?_ _) | (with_reducible refine Kd.C_drew ?_)))
                                   (case side2 => exact HC0_0.out)
                                   (case side3 => repeat (first | exact (Kd.C_below HR0_1.out HB.out) | (with_reducible refine Kd.C_alloc ?_ _) | (with_reducible refine Kd.C_drewN ?_ _) | (with_reducible refine Kd.C_drew ?_)))
                                   (case side4 => exact HC0_1.out)
                                   (case side5 => repeat (first | exact (Kd.C_below HR0_2.out HB.out) | (with_reducible refine Kd.C_alloc ?_ _) | (with_reducible refine Kd.C_drewN ?_ _) | (with_reducible refine Kd.C_drew ?_)))
                                   (case side6 => exact HC0_2.out)
                                   rintro e w47 ⟨rfl, hb⟩
                                   have HS4_ := (hb.cell (World.block_lt_of_cell? _ _ (hHeld.2.2.2.2))).trans (hHeld.2.2.2.2)
                                   refine ⟨_, rfl, ?_⟩
                                   have n0_ := Aside0.mk (Kd.R_below (by (with_reducible repeat (first | apply Kd.R_alloc | apply Kd.R_drewN | apply Kd.R_drew)); exact HO_4.out) hb)
                                   have n1_ := Aside0.mk (blk_below (g := gb1033) (o := .cells #[.slice (some ad1038) l0_0.length c0_0, .slice (some ad1042) l0_1.length c0_1, .slice A0_2 l0_2.length c0_2] 26 (0, 0)) (by (with_reducible repeat (first | refine blk_drewN ?_ _ | refine blk_drew ?_ | refine blk_alloc ?_ _)); exact BK1033.out) hb)
                                   have n2_ := Aside0.mk (below_step (by repeat (first | (with_reducible first | exact HB.out | apply below_alloc | apply pw_below_drewN | apply below_drew1 | refine below_set ?_ GE1033.out) | exact HB.out)) hb)
                                   clear HO_4
                                   clear BK1033
                                   clear HB
                                   have HO_4 := n0_
                                   have BK1033 := n1_
                                   have HB := n2_
                                   clear n0_ n1_ n2_
                                   (try clear hb)
                                   (try clear hb2)
                                   (try clear hk)
                                   (try clear hi)
                                   refine hK.out _ _ ⟨(blk_cell BK1033.out 0).trans rfl, (blk_cell BK1033.out 1).trans rfl, (blk_cell BK1033.out 2).trans rfl, ((HB.out.cell (World.block_lt_of_cell? w _ hw1042_0)).trans hw1042_0), HS4_⟩ (fun hHeld => ?_)
                                   clear hK K
                                   refine norm_ (a' := ?_) ?_ ?_
                                   rotate_left
                                   · show Act.put _ (some 52) _ = _
                                     simp only [Act.put, List.setIfInBounds_toArray, List.set_cons_zero, List.set_cons_succ, i64_w, i32_w]
                                     rfl
                                   refine pure_ (i := 9) (N := some 53) (v := ?_) (a' := ?_) #[true, true, true, true, true, true, true, true, true, true, true, true, true, true, false, false] rfl rfl (any_of HT_.out (by kernel_rfl)) (fun _ _ _ h => h) (Or.inl ⟨by rfl, ?_⟩) ?_ ?_
                                   rotate_left
                                   · intro w'
                                     go_simp
                                     with_reducible rfl
                                   rotate_left
                                   · simp only [Act.put, List.setIfInBounds_toArray, List.set_cons_zero, List.set_cons_succ, i64_w, i32_w]
                                     rfl
                                   refine pure_ (i := 14) (N := some 58) (v := ?_) (a' := ?_) #[true, true, true, true, true, true, true, true, true, true, true, true, true, true, true, false] rfl rfl (any_of HT_.out (by kernel_rfl)) (fun _ _ _ h => h) (Or.inl ⟨by rfl, ?_⟩) ?_ ?_
                                   rotate_left
                                   · intro w'
                                     go_simp
                                     with_reducible rfl
                                   rotate_left
                                   · simp only [Act.put, List.setIfInBounds_toArray, List.set_cons_zero, List.set_cons_succ, i64_w, i32_w]
                                     rfl
                                   refine pure_ (i := 15) (N := some 7) (v := ?_) (a' := ?_) #[true, true, true, true, true, true, true, true, true, true, true, true, true, true, true, true] rfl rfl (any_of HT_.out (by kernel_rfl)) (fun _ _ _ h => h) (Or.inl ⟨by rfl, ?_⟩) ?_ ?_
                                   rotate_left
                                   · intro w'
                                     go_simp
                                     with_reducible rfl
                                   rotate_left
                                   · simp only [Act.put, List.setIfInBounds_toArray, List.set_cons_zero, List.set_cons_succ, i64_w, i32_w]
                                     rfl
                                   refine done_ (done_of HT_.out (by kernel_rfl)) ?_
                                   have p1045 : 0 ≤ (x5_1 : Int) := of_decide_eq_true (by first | (with_reducible assumption) | assumption)
                                   have q1045 : x5_1 < (x4_2.length : Int) := of_decide_eq_true (by first | (with_reducible assumption) | assumption)
                                   obtain ⟨ad1045, e1045, hx1045_0⟩ := Kd.at_int (Kd.R_reads' HO_4.out).2.2 x5_1 p1045 q1045
                                   obtain rfl : (⟨go23, 0, none⟩ : Addr) = ad1045 := (by injection e1045)
                                   (first | simp only [add_plain] at hx1045_0 | simp only [add_at] at hx1045_0 | simp only [Addr.add, Nat.zero_add] at hx1045_0 | skip)
                                   replace p1045 := eq_true p1045
                                   replace q1045 := eq_true q1045
                                   have p1046 : 0 ≤ (x5_1 : Int) := of_decide_eq_true (by first | (with_reducible assumption) | assumption)
                                   have q1046 : x5_1 < (x4_2.length : Int) := of_decide_eq_true (by first | (with_reducible assumption) | assumption)
                                   obtain ⟨ad1046, e1046, hx1046_0⟩ := Kd.at_int (Kd.R_reads' HO_4.out).2.2 x5_1 p1046 q1046
                                   obtain rfl : (⟨go23, 0, none⟩ : Addr) = ad1046 := (by injection e1046)
                                   (first | simp only [add_plain] at hx1046_0 | simp only [add_at] at hx1046_0 | simp only [Addr.add, Nat.zero_add] at hx1046_0 | skip)
                                   replace p1046 := eq_true p1046
                                   replace q1046 := eq_true q1046
                                   try go_wp2
                                   (try simp only [← hl4_2])
                                   go_roundg k2
                                   case measure => have := HK1.out; have := HK2.out; omega
                                   case rel => exact ⟨(x4_2), (wrap64 (x6_2 + 1)), (by first | rfl | (simp; done) | (simp [*]; done)), H', ⟨by have := HK1.out; have := HK2.out; omega⟩, ⟨by (try simp only [hl4_2]); (with_reducible repeat (first | apply Kd.R_alloc | apply Kd.R_drewN | apply Kd.R_drew)); exact HO_4.out⟩, ⟨by (try simp only [hl4_2]); (with_reducible repeat (first | refine blk_drewN ?_ _ | refine blk_drew ?_ | refine blk_alloc ?_ _)); exact BK1033.out⟩, ⟨by repeat (first | (with_reducible first | exact HB.out | apply below_alloc | apply pw_below_drewN | apply below_drew1 | refine below_set ?_ GE1033.out) | exact HB.out)⟩⟩
                             · rw [if_neg c33] at H
                               exact absurd H (by simp)
                           · rw [if_neg c32] at H
                             exact absurd H (by simp)
                         · rw [if_neg c31] at H
                           exact absurd H (by simp)
                       · rw [if_neg c30] at H
                         exact absurd H (by simp)
                     · rw [if_neg c28] at H
                       exact absurd H (by simp)
                   · rw [if_neg c27] at H
                     have c27b0 : decide (x6_2 ≤ (l0_0.length : Int)) = false := decide_eq_false c27
                     clear c27
                     have H' := Aside0.mk H
                     clear H
                     go_wp2
                     (try simp only [← hl4_2])
                     go_roundg k2
                     case measure => have := HK1.out; have := HK2.out; omega
                     case rel => exact ⟨(x4_2), (wrap64 (x5_1 - 1)), (by first | rfl | (simp; done) | (simp [*]; done)), H', ⟨by have := HK1.out; have := HK2.out; omega⟩, ⟨by (try simp only [hl4_2]); (with_reducible repeat (first | apply Kd.R_alloc | apply Kd.R_drewN | apply Kd.R_drew)); exact HO_4.out⟩, ⟨by (try simp only [hl4_2]); (with_reducible repeat (first | refine blk_drewN ?_ _ | refine blk_drew ?_ | refine blk_alloc ?_ _)); exact BK1033.out⟩, ⟨by repeat (first | (with_reducible first | exact HB.out | apply below_alloc | apply pw_below_drewN | apply below_drew1 | refine below_set ?_ GE1033.out) | exact HB.out)⟩⟩
               · rw [if_neg c22] at H
                 exact absurd H (by simp)
           · rw [if_neg c11] at H
             exact absurd H (by simp)
         · rw [if_neg c10] at H
           exact absurd H (by simp)
       · rw [if_neg c9] at H
         have c9b0 : decide (0 ≤ x5_1) = false := decide_eq_false c9
         clear c9
         by_cases c48 : 0 < (x4_1.length : Int)
         · rw [if_pos c48] at H
           have c48b0 : decide (0 < (x4_1.length : Int)) = true := decide_eq_true c48
           have c48b1 : decide (0 < x4_1.length) = true := decide_eq_true (by omega)
           clear c48
           obtain rfl := Option.some.inj H
           obtain ⟨Ao49, co49, eo49⟩ := Kd.R_slice HO_4.out
           subst eo49
           have p1037 : 0 ≤ (0 : Int) := (by omega)
           have q1037 : 0 < (x4_1.length : Int) := of_decide_eq_true (by first | (with_reducible assumption) | assumption)
           obtain ⟨ad1037, e1037, hx1037_0⟩ := Kd.at_int (Kd.R_reads' HO_4.out).2.2 0 p1037 q1037
           cases e1037
           have qi1037 : (0 < x4_1.length) = True := eq_true (by omega)
           (try rw [show ((0 : Int)).toNat = 0 from rfl] at hx1037_0)
           (try rw [Addr.add_zero'] at hx1037_0)
           replace p1037 := eq_true p1037
           replace q1037 := eq_true q1037
           go_wp2
           go_ret
           exact ⟨by first | rfl | (simp [errW_none, errW_some] <;> rfl) | (simp only [← hji2]; first | rfl | (simp [errW_none, errW_some] <;> rfl)) | (simp [*, errW_none, errW_some] <;> rfl), by repeat (first | (with_reducible first | exact HB.out | apply below_alloc | apply pw_below_drewN | apply below_drew1 | refine below_set ?_ GE1033.out) | exact HB.out)⟩
         · rw [if_neg c48] at H
           exact absurd H (by simp)
   · rw [if_neg c4] at H
     exact absurd H (by simp)
 · rw [if_neg c3] at H
   exact absurd H (by simp)
end Go.Proofs.Ythlmmcmpllgflaa.P
namespace Go.Proofs.Ythlmmcmpllgflaa.P
open Go.RowKit Go.Proofs.YthlmmcmpllgflaaW.PrintWords Go.Proofs.YthlmmcmpllgflaaW.PrintLast Go.Proofs.YthlmmcmpllgflaaW.PrintMore
attribute [local go_sem] max2_int min2_int max_two min_two max_three min_three max_four min_four
set_option linter.unusedVariables false
set_option linter.unusedSimpArgs false
def spec_BestChainCost.f (k : Nat) (l0_0 : List Int) (l0_1 : List Int) (l0_2 : List Int) : Option (Int × Bool) := (spec_l7Good.f k l0_0 l0_1 l0_2).bind fun t1050 => (if t1050 = true then ((spec_l7Best.f k l0_0 l0_1 l0_2).bind fun t1051 => (some (t1051, true))) else (some (0, false)))
set_option maxHeartbeats 8000000 in
set_option maxRecDepth 100000 in
theorem spec_BestChainCost.calls (k : Nat) (A0_0 : Option Addr) (c0_0 : Nat) (l0_0 : List Int) (A0_1 : Option Addr) (c0_1 : Nat) (l0_1 : List Int) (A0_2 : Option Addr) (c0_2 : Nat) (l0_2 : List Int) (r1 : Int) (r2 : Bool) (w : World) (hr0_0 : Kd.C (Kd.int .i64) w A0_0 l0_0.length l0_0) (hc0_0 : l0_0.length ≤ c0_0) (hr0_1 : Kd.C (Kd.int .i64) w A0_1 l0_1.length l0_1) (hc0_1 : l0_1.length ≤ c0_1) (hr0_2 : Kd.C (Kd.int .i64) w A0_2 l0_2.length l0_2) (hc0_2 : l0_2.length ≤ c0_2) (h : spec_BestChainCost.f k l0_0 l0_1 l0_2 = some (r1, r2)) :
 Calls Try.prog 16 #[.agg #[.slice A0_0 l0_0.length c0_0, .slice A0_1 l0_1.length c0_1, .slice A0_2 l0_2.length c0_2]] w fun e w' => e = .returned (.tuple #[.int .i64 r1, .bool r2]) ∧ Below w.heap.size w w' := by
 have hu26 := Try.underlying26
 have HR0_0 := Aside0.mk hr0_0
 have HC0_0 := Aside0.mk hc0_0
 clear hr0_0 hc0_0
 have HR0_1 := Aside0.mk hr0_1
 have HC0_1 := Aside0.mk hc0_1
 clear hr0_1 hc0_1
 have HR0_2 := Aside0.mk hr0_2
 have HC0_2 := Aside0.mk hc0_2
 clear hr0_2 hc0_2
 have HB := Aside0.mk (Below.refl w.heap.size w)
 have H : ((spec_l7Good.f k l0_0 l0_1 l0_2).bind fun t1050 => (if t1050 = true then ((spec_l7Best.f k l0_0 l0_1 l0_2).bind fun t1051 => (some (t1051, true))) else (some (0, false)))) = some (r1, r2) := h
 clear h
 replace H := Option.bind_eq_some_iff.mp H
 obtain ⟨t1050, A20, H⟩ := H
 replace H : (if t1050 = true then ((spec_l7Best.f k l0_0 l0_1 l0_2).bind fun t1051 => (some (t1051, true))) else (some (0, false))) = some (r1, r2) := H
 have A2 := Aside0.mk A20
 clear A20
 by_cases c3 : t1050 = true
 · subst c3
   have H1 : ((spec_l7Best.f k l0_0 l0_1 l0_2).bind fun t1051 => (some (t1051, true))) = some (r1, r2) := by rw [if_pos rfl] at H; exact H
   clear H
   have H := H1
   clear H1
   replace H := Option.bind_eq_some_iff.mp H
   obtain ⟨t1051, A40, H⟩ := H
   replace H : (some (t1051, true)) = some (r1, r2) := H
   have A4 := Aside0.mk A40
   clear A40
   simp only [Option.some.injEq, Prod.mk.injEq] at H
   obtain ⟨rfl, rfl⟩ := H
   go_enter Try.func16, Try.ntmps16
   go_wp2_with (first | ((with_reducible refine gate_dst (N := 1) rfl ?_); refine box_event ?hg (N := 1) ?hd (cs := #[.slice A0_0 l0_0.length c0_0, .slice A0_1 l0_1.length c0_1, .slice A0_2 l0_2.length c0_2]) (t := 26) ?hr ?_; (case hd => rfl); (case hg => rfl); (case hr => first | (go_simp; done) | (go_simp; rfl)); intro gb1049 hg w5 hbox hb; have n0_ := Aside0.mk (below_step (by repeat (first | (with_reducible first | exact HB.out | apply below_alloc | apply pw_below_drewN | apply below_drew1) | exact HB.out)) hb); have n1_ := Aside0.mk (hbox); have n2_ := Aside0.mk ((by rw [hg]; exact (below_size (by repeat (first | (with_reducible first | exact HB.out | apply below_alloc | apply pw_below_drewN | apply below_drew1) | exact HB.out))) : w.heap.size ≤ gb1049)); have n3_ := Aside0.mk ((by rw [hg]; exact (below_size (by repeat (first | (with_reducible first | exact HB.out | apply below_alloc | apply pw_below_drewN | apply below_drew1) | exact HB.out))) : w.heap.size ≤ gb1049)); clear HB; have HB := n0_; have BK1049 := n1_; have GW1049 := n2_; have GE1049 := n3_; clear n0_ n1_ n2_ n3_; clear hb hbox hg; have hcz6_0 : w5.cell? ⟨gb1049, 0, none⟩ = some (.slice A0_0 l0_0.length c0_0) := (blk_cell BK1049.out 0).trans rfl; have hcz6_1 : w5.cell? ⟨gb1049, 1, none⟩ = some (.slice A0_1 l0_1.length c0_1) := (blk_cell BK1049.out 1).trans rfl; have hcz6_2 : w5.cell? ⟨gb1049, 2, none⟩ = some (.slice A0_2 l0_2.length c0_2) := (blk_cell BK1049.out 2).trans rfl; have hfz6_0 := blk_frozen BK1049.out 0; have hfz6_1 := blk_frozen BK1049.out 1; have hfz6_2 := blk_frozen BK1049.out 2) | ((with_reducible refine gate_callee (f := 61) rfl ?_); refine goesL_ (some 5) rfl rfl Try.func61 (by kernel_rfl) rfl #[.agg #[.slice A0_0 l0_0.length c0_0, .slice A0_1 l0_1.length c0_1, .slice A0_2 l0_2.length c0_2]] rfl (by (try simp only [List.map_toArray, List.map_cons, List.map_nil]); first | done | rfl | (simp only [List.length_drop, List.length_take]; rfl)) ?_; (with_reducible refine (spec_l7Good.calls k _ _ l0_0 _ _ l0_1 _ _ l0_2 true _ ?side1 ?side2 ?side3 ?side4 ?side5 ?side6 A2.out).mono ?_); (case side1 => repeat (first | exact (Kd.C_below HR0_0.out HB.out) | (with_reducible refine Kd.C_alloc ?_ _) | (with_reducible refine Kd.C_drewN ?_ _) | (with_reducible refine Kd.C_drew ?_))); (case side2 => exact HC0_0.out); (case side3 => repeat (first | exact (Kd.C_below HR0_1.out HB.out) | (with_reducible refine Kd.C_alloc ?_ _) | (with_reducible refine Kd.C_drewN ?_ _) | (with_reducible refine Kd.C_drew ?_))); (case side4 => exact HC0_1.out); (case side5 => repeat (first | exact (Kd.C_below HR0_2.out HB.out) | (with_reducible refine Kd.C_alloc ?_ _) | (with_reducible refine Kd.C_drewN ?_ _) | (with_reducible refine Kd.C_drew ?_))); (case side6 => exact HC0_2.out); rintro e w7 ⟨rfl, hb⟩; refine ⟨_, rfl, ?_⟩; have n0_ := Aside0.mk (blk_below (g := gb1049) (o := .cells #[.slice A0_0 l0_0.length c0_0, .slice A0_1 l0_1.length c0_1, .slice A0_2 l0_2.length c0_2] 26 (0, 0)) (by (with_reducible repeat (first | refine blk_drewN ?_ _ | refine blk_drew ?_ | refine blk_alloc ?_ _)); exact BK1049.out) hb); have n1_ := Aside0.mk (below_step (by repeat (first | (with_reducible first | exact HB.out | apply below_alloc | apply pw_below_drewN | apply below_drew1 | refine below_set ?_ GE1049.out) | exact HB.out)) hb); clear BK1049; clear HB; have BK1049 := n0_; have HB := n1_; clear n0_ n1_; (try clear hb); (try clear hb2); (try clear hk); (try clear hi); have hcz8_0 : w7.cell? ⟨gb1049, 0, none⟩ = some (.slice A0_0 l0_0.length c0_0) := (blk_cell BK1049.out 0).trans rfl; have hcz8_1 : w7.cell? ⟨gb1049, 1, none⟩ = some (.slice A0_1 l0_1.length c0_1) := (blk_cell BK1049.out 1).trans rfl; have hcz8_2 : w7.cell? ⟨gb1049, 2, none⟩ = some (.slice A0_2 l0_2.length c0_2) := (blk_cell BK1049.out 2).trans rfl; have hfz8_0 := blk_frozen BK1049.out 0; have hfz8_1 := blk_frozen BK1049.out 1; have hfz8_2 := blk_frozen BK1049.out 2) | ((with_reducible refine gate_callee (f := 68) rfl ?_); refine goesL_ (some 8) rfl rfl Try.func68 (by kernel_rfl) rfl #[.agg #[.slice A0_0 l0_0.length c0_0, .slice A0_1 l0_1.length c0_1, .slice A0_2 l0_2.length c0_2]] rfl (by (try simp only [List.map_toArray, List.map_cons, List.map_nil]); first | done | rfl | (simp only [List.length_drop, List.length_take]; rfl)) ?_; (with_reducible refine (spec_l7Best.calls k _ _ l0_0 _ _ l0_1 _ _ l0_2 t1051 _ ?side1 ?side2 ?side3 ?side4 ?side5 ?side6 A4.out).mono ?_); (case side1 => repeat (first | exact (Kd.C_below HR0_0.out HB.out) | (with_reducible refine Kd.C_alloc ?_ _) | (with_reducible refine Kd.C_drewN ?_ _) | (with_reducible refine Kd.C_drew ?_))); (case side2 => exact HC0_0.out); (case side3 => repeat (first | exact (Kd.C_below HR0_1.out HB.out) | (with_reducible refine Kd.C_alloc ?_ _) | (with_reducible refine Kd.C_drewN ?_ _) | (with_reducible refine Kd.C_drew ?_))); (case side4 => exact HC0_1.out); (case side5 => repeat (first | exact (Kd.C_below HR0_2.out HB.out) | (with_reducible refine Kd.C_alloc ?_ _) | (with_reducible refine Kd.C_drewN ?_ _) | (with_reducible refine Kd.C_drew ?_))); (case side6 => exact HC0_2.out); rintro e w9 ⟨rfl, hb⟩; refine ⟨_, rfl, ?_⟩; have n0_ := Aside0.mk (blk_below (g := gb1049) (o := .cells #[.slice A0_0 l0_0.length c0_0, .slice A0_1 l0_1.length c0_1, .slice A0_2 l0_2.length c0_2] 26 (0, 0)) (by (with_reducible repeat (first | refine blk_drewN ?_ _ | refine blk_drew ?_ | refine blk_alloc ?_ _)); exact BK1049.out) hb); have n1_ := Aside0.mk (below_step (by repeat (first | (with_reducible first | exact HB.out | apply below_alloc | apply pw_below_drewN | apply below_drew1 | refine below_set ?_ GE1049.out) | exact HB.out)) hb); clear BK1049; clear HB; have BK1049 := n0_; have HB := n1_; clear n0_ n1_; (try clear hb); (try clear hb2); (try clear hk); (try clear hi)))
   go_ret2
   exact ⟨by first | rfl | (simp [errW_none, errW_some] <;> rfl) | (simp [*, errW_none, errW_some] <;> rfl), by repeat (first | (with_reducible first | exact HB.out | apply below_alloc | apply pw_below_drewN | apply below_drew1 | refine below_set ?_ GE1049.out) | exact HB.out)⟩
 · replace c3 := Bool.eq_false_iff.mpr c3
   subst c3
   have H1 : (some (0, false)) = some (r1, r2) := by rw [if_neg (show ¬ (false = true) by decide)] at H; exact H
   clear H
   have H := H1
   clear H1
   simp only [Option.some.injEq, Prod.mk.injEq] at H
   obtain ⟨rfl, rfl⟩ := H
   go_enter Try.func16, Try.ntmps16
   go_wp2_with (first | ((with_reducible refine gate_dst (N := 1) rfl ?_); refine box_event ?hg (N := 1) ?hd (cs := #[.slice A0_0 l0_0.length c0_0, .slice A0_1 l0_1.length c0_1, .slice A0_2 l0_2.length c0_2]) (t := 26) ?hr ?_; (case hd => rfl); (case hg => rfl); (case hr => first | (go_simp; done) | (go_simp; rfl)); intro gb1049 hg w10 hbox hb; have n0_ := Aside0.mk (below_step (by repeat (first | (with_reducible first | exact HB.out | apply below_alloc | apply pw_below_drewN | apply below_drew1) | exact HB.out)) hb); have n1_ := Aside0.mk (hbox); have n2_ := Aside0.mk ((by rw [hg]; exact (below_size (by repeat (first | (with_reducible first | exact HB.out | apply below_alloc | apply pw_below_drewN | apply below_drew1) | exact HB.out))) : w.heap.size ≤ gb1049)); have n3_ := Aside0.mk ((by rw [hg]; exact (below_size (by repeat (first | (with_reducible first | exact HB.out | apply below_alloc | apply pw_below_drewN | apply below_drew1) | exact HB.out))) : w.heap.size ≤ gb1049)); clear HB; have HB := n0_; have BK1049 := n1_; have GW1049 := n2_; have GE1049 := n3_; clear n0_ n1_ n2_ n3_; clear hb hbox hg; have hcz11_0 : w10.cell? ⟨gb1049, 0, none⟩ = some (.slice A0_0 l0_0.length c0_0) := (blk_cell BK1049.out 0).trans rfl; have hcz11_1 : w10.cell? ⟨gb1049, 1, none⟩ = some (.slice A0_1 l0_1.length c0_1) := (blk_cell BK1049.out 1).trans rfl; have hcz11_2 : w10.cell? ⟨gb1049, 2, none⟩ = some (.slice A0_2 l0_2.length c0_2) := (blk_cell BK1049.out 2).trans rfl; have hfz11_0 := blk_frozen BK1049.out 0; have hfz11_1 := blk_frozen BK1049.out 1; have hfz11_2 := blk_frozen BK1049.out 2) | ((with_reducible refine gate_callee (f := 61) rfl ?_); refine goesL_ (some 5) rfl rfl Try.func61 (by kernel_rfl) rfl #[.agg #[.slice A0_0 l0_0.length c0_0, .slice A0_1 l0_1.length c0_1, .slice A0_2 l0_2.length c0_2]] rfl (by (try simp only [List.map_toArray, List.map_cons, List.map_nil]); first | done | rfl | (simp only [List.length_drop, List.length_take]; rfl)) ?_; (with_reducible refine (spec_l7Good.calls k _ _ l0_0 _ _ l0_1 _ _ l0_2 false _ ?side1 ?side2 ?side3 ?side4 ?side5 ?side6 A2.out).mono ?_); (case side1 => repeat (first | exact (Kd.C_below HR0_0.out HB.out) | (with_reducible refine Kd.C_alloc ?_ _) | (with_reducible refine Kd.C_drewN ?_ _) | (with_reducible refine Kd.C_drew ?_))); (case side2 => exact HC0_0.out); (case side3 => repeat (first | exact (Kd.C_below HR0_1.out HB.out) | (with_reducible refine Kd.C_alloc ?_ _) | (with_reducible refine Kd.C_drewN ?_ _) | (with_reducible refine Kd.C_drew ?_))); (case side4 => exact HC0_1.out); (case side5 => repeat (first | exact (Kd.C_below HR0_2.out HB.out) | (with_reducible refine Kd.C_alloc ?_ _) | (with_reducible refine Kd.C_drewN ?_ _) | (with_reducible refine Kd.C_drew ?_))); (case side6 => exact HC0_2.out); rintro e w12 ⟨rfl, hb⟩; refine ⟨_, rfl, ?_⟩; have n0_ := Aside0.mk (blk_below (g := gb1049) (o := .cells #[.slice A0_0 l0_0.length c0_0, .slice A0_1 l0_1.length c0_1, .slice A0_2 l0_2.length c0_2] 26 (0, 0)) (by (with_reducible repeat (first | refine blk_drewN ?_ _ | refine blk_drew ?_ | refine blk_alloc ?_ _)); exact BK1049.out) hb); have n1_ := Aside0.mk (below_step (by repeat (first | (with_reducible first | exact HB.out | apply below_alloc | apply pw_below_drewN | apply below_drew1 | refine below_set ?_ GE1049.out) | exact HB.out)) hb); clear BK1049; clear HB; have BK1049 := n0_; have HB := n1_; clear n0_ n1_; (try clear hb); (try clear hb2); (try clear hk); (try clear hi)))
   go_ret2
   exact ⟨by first | rfl | (simp [errW_none, errW_some] <;> rfl) | (simp [*, errW_none, errW_some] <;> rfl), by repeat (first | (with_reducible first | exact HB.out | apply below_alloc | apply pw_below_drewN | apply below_drew1 | refine below_set ?_ GE1049.out) | exact HB.out)⟩
end Go.Proofs.Ythlmmcmpllgflaa.P
namespace Go.Proofs.Ythlmmcmpllgflaa.P
open Go.RowKit Go.Proofs.YthlmmcmpllgflaaW.PrintWords Go.Proofs.YthlmmcmpllgflaaW.PrintLast Go.Proofs.YthlmmcmpllgflaaW.PrintMore ChainMath
structure Small (need setup hold : List Int) : Prop where
  n : need.length ≤ 6
  m : setup.length ≤ 3
  m0 : 0 < setup.length
  h : hold.length = setup.length
  ris : risB hold = true
  need : ∀ x ∈ need, 0 ≤ x ∧ x ≤ 20
  setup : ∀ x ∈ setup, 0 ≤ x ∧ x ≤ 99
  hold : ∀ x ∈ hold, 0 ≤ x ∧ x ≤ 9
theorem small_of {need setup hold : List Int} (hg : chainB need setup hold = true) : Small need setup hold := by
  unfold chainB at hg; simp only [Bool.and_eq_true, decide_eq_true_eq] at hg
  obtain ⟨g1, g2, g3, g4, g5, g6, g7⟩ := hg
  unfold inB at g3; simp at g3
  exact ⟨by omega, by omega, by omega, by omega, g7, fun x hx => inB_mem g2 hx, fun x hx => inB_mem g5 hx, fun x hx => inB_mem g6 hx⟩
section
variable {need setup hold : List Int} (S : Small need setup hold)
include S
theorem Small.D : ∀ s t, s ≤ t → t ≤ need.length → dsum need s ≤ dsum need t := dsum_mono need (fun x hx => (S.need x hx).1)
theorem Small.Db {t : Nat} (h : t ≤ need.length) : 0 ≤ dsum need t ∧ dsum need t ≤ 120 := by
  have := dsum_bound need 20 S.need t h; have := S.n; omega
theorem Small.su {s : Nat} (h : s < setup.length) : 0 ≤ fn setup s ∧ fn setup s ≤ 99 := S.setup _ (getD_mem setup h)
theorem Small.ho {s : Nat} (h : s < setup.length) : 0 ≤ fn hold s ∧ fn hold s ≤ 9 := S.hold _ (getD_mem hold (by rw [S.h]; exact h))
theorem Small.su0 : ∀ s, s < setup.length → 0 ≤ fn setup s := fun _ h => (S.su h).1
theorem Small.ho0 : ∀ s, s < setup.length → 0 ≤ fn hold s := fun _ h => (S.ho h).1
theorem slice_sum {a b : Nat} (h1 : a ≤ b) (h2 : b ≤ need.length) : Ev (fun k => spec_l2Sum.f k ((need.take ((b : Nat) : Int).toNat).drop ((a : Nat) : Int).toNat)) (dsum need b - dsum need a) := by
  rw [Int.toNat_natCast, Int.toNat_natCast]
  have hn := S.n
  refine (l2Sum_ev _ (by rw [List.length_drop, List.length_take]; omega) (fun x hx => ?_)).to ?_
  · have := S.need x (List.mem_of_mem_take (List.mem_of_mem_drop hx)); omega
  · have e : need.take b = need.take a ++ (need.take b).drop a := by
      conv => lhs; rw [← List.take_append_drop a (need.take b)]
      rw [List.take_take, Nat.min_eq_left h1]
    have := congrArg lsum e
    rw [lsum_append] at this
    unfold dsum; omega
def U (f : Nat) : Int := 1200 * ((2 ^ f : Nat) : Int) - 1200
omit S in
theorem U_succ (f : Nat) : U (f + 1) = 2 * U f + 1200 := by unfold U; rw [Nat.pow_succ]; omega
omit S in
theorem U_pos (f : Nat) : 0 ≤ U f := by unfold U; have : 0 < 2 ^ f := Nat.pow_pos (by omega); omega
omit S in
theorem U_le {f : Nat} (h : f ≤ 10) : U f ≤ 10000000 := by
  unfold U; have : 2 ^ f ≤ 2 ^ 10 := Nat.pow_le_pow_right (by omega) h
  have : (2 : Nat) ^ 10 = 1024 := by decide
  omega
theorem mul_small {s a b : Nat} (hs : s < setup.length) (h1 : a ≤ b) (h2 : b ≤ need.length) : 0 ≤ fn hold s * (dsum need b - dsum need a) ∧ fn hold s * (dsum need b - dsum need a) ≤ 1080 := by
  have h3 := S.D a b h1 h2; have h4 := S.Db h2; have h5 := S.Db (t := a) (by omega)
  have h6 := S.ho hs
  refine ⟨Int.mul_nonneg h6.1 (by omega), ?_⟩
  have : fn hold s * (dsum need b - dsum need a) ≤ 9 * 120 := Int.mul_le_mul h6.2 (by omega) (by omega) (by omega)
  omega
theorem giveU : ∀ f s t a b, s < setup.length → t ≤ a → a ≤ b → b ≤ need.length → (b - t) + (setup.length - s) ≤ f →
    0 ≤ give setup.length (dsum need) (fn setup) (fn hold) f s t a b ∧ give setup.length (dsum need) (fn setup) (fn hold) f s t a b ≤ U f
  | 0, s, t, a, b, h1, _, _, _, h5 => by omega
  | f + 1, s, t, a, b, h1, h2, h3, h4, h5 => by
    refine ⟨give_nonneg S.D S.su0 S.ho0 (f + 1) s t a b h1 h2 h3 h4 h5, ?_⟩
    have hU := U_pos f
    rw [U_succ]
    unfold give
    split
    · omega
    · obtain ⟨_, _, _, i3⟩ := least_spec (gcand setup.length (dsum need) (fn setup) (fn hold) (give setup.length (dsum need) (fn setup) (fn hold) f) s t a b) (List.range' a (b + 1 - a)) (-1) (gcand_nonneg S.D S.su0 S.ho0 f s t a b h1 h2 h3 h4 h5) (by omega)
      rcases i3 with e | ⟨split, hm, hc⟩
      · rw [e]; omega
      · generalize least (gcand setup.length (dsum need) (fn setup) (fn hold) (give setup.length (dsum need) (fn setup) (fn hold) f) s t a b) (List.range' a (b + 1 - a)) (-1) = c at *
        rw [List.mem_range'_1] at hm
        have hmul := mul_small S h1 (show split ≤ b by omega) h4
        unfold gcand at hc
        split at hc
        · rename_i hsm
          have p1 : (if dsum need split - dsum need a > 0 then fn setup (s + 1) + give setup.length (dsum need) (fn setup) (fn hold) f (s + 1) t a split else 0) ≤ 99 + U f := by
            split
            · have := (S.su hsm).2; have := (giveU f (s + 1) t a split hsm h2 (by omega) (by omega) (by omega)).2; omega
            · omega
          dsimp only at hc
          split at hc
          · split at hc
            · simp at hc
            · have := (giveU f s (t + 1) split b h1 (by omega) (by omega) h4 (by omega)).2
              simp only [Option.some.injEq] at hc; omega
          · simp only [Option.some.injEq] at hc; omega
        · split at hc
          · simp at hc
          · split at hc
            · split at hc
              · simp at hc
              · have := (giveU f s (t + 1) split b h1 (by omega) (by omega) h4 (by omega)).2
                simp only [Option.some.injEq] at hc; omega
            · simp only [Option.some.injEq] at hc; omega
def restC (need setup hold : List Int) (f s t b i : Nat) (c1 : Int) : Option Int :=
  if dsum need b - dsum need i > 0 then (if t + 1 > i then none else some (c1 + fn hold s * (dsum need b - dsum need i) + give setup.length (dsum need) (fn setup) (fn hold) f s (t + 1) i b)) else some c1
theorem give_j1 {f s t a b i : Nat} (hf : f ≤ 9) (h1 : s < setup.length) (h2 : t ≤ a) (h3 : a ≤ i) (h4 : i ≤ b) (h5 : b ≤ need.length) (h6 : (b - t) + (setup.length - s) ≤ f + 1) {best c1 : Int} (hc : 0 ≤ c1 ∧ c1 ≤ 99 + U f)
    (ih : ∀ s t a b, s < setup.length → t ≤ a → a ≤ b → b ≤ need.length → (b - t) + (setup.length - s) ≤ f → Ev (fun k => spec_l7Give.f k need setup hold (s : Int) (t : Int) (a : Int) (b : Int)) (give setup.length (dsum need) (fn setup) (fn hold) f s t a b))
    {R : Int} (hR : Ev (fun k => spec_l7Give.l0 k (s : Int) (t : Int) (a : Int) (b : Int) (upd best (restC need setup hold f s t b i c1)) ((i + 1 : Nat) : Int) need setup hold) R) :
    Ev (fun k => spec_l7Give.j1 k (s : Int) (t : Int) (a : Int) (b : Int) best (i : Int) c1 need setup hold) R := by
  have hn := S.n; have hm := S.m
  have hU := U_pos f; have hU2 := U_le (f := f) (by omega)
  refine Ev.step (fun k => spec_l7Give.j1.eq_2 ..) ?_
  refine Ev.pos (by omega) (Ev.pos (by omega) (Ev.pos (by omega) (Ev.bind (slice_sum S h4 h5) ?_)))
  rw [wrS (i := i) (by omega)]
  unfold restC at hR
  by_cases hl : dsum need b - dsum need i > 0
  · rw [if_pos hl] at hR
    refine Ev.pos hl ?_
    rw [wrS (i := t) (by omega)]
    by_cases ht : t + 1 > i
    · rw [if_pos ht] at hR
      exact Ev.pos (by omega) hR
    · rw [if_neg ht] at hR
      have hg := giveU S f s (t + 1) i b h1 (by omega) h4 h5 (by omega)
      have hmul := mul_small S h1 h4 h5
      have hh := S.h
      refine Ev.neg (by omega) (Ev.pos (by omega) (Ev.pos (by omega) (Ev.bind (ih s (t + 1) i b h1 (by omega) h4 h5 (by omega)) ?_)))
      rw [rd_nat, show hold.getD s 0 = fn hold s from rfl]
      generalize fn hold s * (dsum need b - dsum need i) = p at *
      generalize give setup.length (dsum need) (fn setup) (fn hold) f s (t + 1) i b = g at *
      rw [wr (n := p) (by omega) (by omega), wr (n := c1 + p) (by omega) (by omega), wr (n := c1 + p + g) (by omega) (by omega)]
      unfold upd at hR; dsimp only at hR
      by_cases q1 : best < 0
      · rw [if_pos (.inl q1)] at hR; exact Ev.pos q1 hR
      · refine Ev.neg q1 ?_
        by_cases q2 : c1 + p + g < best
        · rw [if_pos (.inr q2)] at hR; exact Ev.pos q2 hR
        · rw [if_neg (by omega)] at hR; exact Ev.neg q2 hR
  · rw [if_neg hl] at hR
    refine Ev.neg hl ?_
    unfold upd at hR; dsimp only at hR
    by_cases q1 : best < 0
    · rw [if_pos (.inl q1)] at hR; exact Ev.pos q1 hR
    · refine Ev.neg q1 ?_
      by_cases q2 : c1 < best
      · rw [if_pos (.inr q2)] at hR; exact Ev.pos q2 hR
      · rw [if_neg (by omega)] at hR; exact Ev.neg q2 hR
theorem give_l0 {f s t a b : Nat} (hf : f ≤ 9) (h1 : s < setup.length) (h2 : t ≤ a) (h5 : b ≤ need.length) (h6 : (b - t) + (setup.length - s) ≤ f + 1)
    (ih : ∀ s t a b, s < setup.length → t ≤ a → a ≤ b → b ≤ need.length → (b - t) + (setup.length - s) ≤ f → Ev (fun k => spec_l7Give.f k need setup hold (s : Int) (t : Int) (a : Int) (b : Int)) (give setup.length (dsum need) (fn setup) (fn hold) f s t a b)) :
    ∀ (d i : Nat) (best : Int), a ≤ i → i + d = b + 1 →
    Ev (fun k => spec_l7Give.l0 k (s : Int) (t : Int) (a : Int) (b : Int) best (i : Int) need setup hold) (least (gcand setup.length (dsum need) (fn setup) (fn hold) (give setup.length (dsum need) (fn setup) (fn hold) f) s t a b) (List.range' i d) best)
  | 0, i, best, ha, h => by
    refine Ev.step (fun k => spec_l7Give.l0.eq_2 ..) ?_
    exact Ev.neg (by omega) (Ev.now _)
  | d + 1, i, best, ha, h => by
    have hn := S.n; have hm := S.m
    have hU := U_pos f; have hU2 := U_le (f := f) (by omega)
    have next := give_l0 hf h1 h2 h5 h6 ih d (i + 1) (upd best (gcand setup.length (dsum need) (fn setup) (fn hold) (give setup.length (dsum need) (fn setup) (fn hold) f) s t a b i)) (by omega) (by omega)
    rw [show List.range' i (d + 1) = i :: List.range' (i + 1) d from rfl]
    simp only [least]
    refine Ev.step (fun k => spec_l7Give.l0.eq_2 ..) ?_
    refine Ev.pos (by omega) ?_
    rw [wrS (i := s) (by omega), wrS (i := a) (by omega), wrS (i := i) (by omega)]
    by_cases hsm : s + 1 < setup.length
    · have hgc : ∀ c1, c1 = (if dsum need i - dsum need a > 0 then fn setup (s + 1) + give setup.length (dsum need) (fn setup) (fn hold) f (s + 1) t a i else 0) →
          gcand setup.length (dsum need) (fn setup) (fn hold) (give setup.length (dsum need) (fn setup) (fn hold) f) s t a b i = restC need setup hold f s t b i c1 := by
        intro c1 e; unfold gcand restC; rw [if_pos hsm, e]
      refine Ev.pos (by omega) (Ev.pos (by omega) (Ev.pos (by omega) (Ev.pos (by omega) (Ev.bind (slice_sum S ha (by omega)) ?_))))
      by_cases hl : dsum need i - dsum need a > 0
      · have hg := giveU S f (s + 1) t a i hsm h2 ha (by omega) (by omega)
        have hsu := S.su hsm
        rw [hgc _ (by rw [if_pos hl])] at next ⊢
        refine Ev.pos hl (Ev.pos (by omega) (Ev.bind (ih (s + 1) t a i hsm h2 ha (by omega) (by omega)) ?_))
        rw [rd_nat, show setup.getD (s + 1) 0 = fn setup (s + 1) from rfl, wr (by omega) (by omega)]
        refine give_j1 S hf h1 h2 ha (by omega) h5 h6 (by omega) ih next
      · rw [hgc 0 (by rw [if_neg hl])] at next ⊢
        refine Ev.neg hl ?_
        exact give_j1 S hf h1 h2 ha (by omega) h5 h6 (by omega) ih next
    · refine Ev.neg (by omega) ?_
      have hno : (i > a + 1 ∨ (i > a ∧ a > t) ∨ (i = a ∧ a = t)) → Ev (fun k => spec_l7Give.l0 k (s : Int) (t : Int) (a : Int) (b : Int) best ((i + 1 : Nat) : Int) need setup hold) (least (gcand setup.length (dsum need) (fn setup) (fn hold) (give setup.length (dsum need) (fn setup) (fn hold) f) s t a b) (List.range' (i + 1) d) (upd best (gcand setup.length (dsum need) (fn setup) (fn hold) (give setup.length (dsum need) (fn setup) (fn hold) f) s t a b i))) := by
        intro hx
        have e : gcand setup.length (dsum need) (fn setup) (fn hold) (give setup.length (dsum need) (fn setup) (fn hold) f) s t a b i = none := by unfold gcand; rw [if_neg hsm, if_pos hx]
        rw [e] at next ⊢; exact next
      have hyes : ¬ (i > a + 1 ∨ (i > a ∧ a > t) ∨ (i = a ∧ a = t)) → Ev (fun k => spec_l7Give.j1 k (s : Int) (t : Int) (a : Int) (b : Int) best (i : Int) 0 need setup hold) (least (gcand setup.length (dsum need) (fn setup) (fn hold) (give setup.length (dsum need) (fn setup) (fn hold) f) s t a b) (List.range' (i + 1) d) (upd best (gcand setup.length (dsum need) (fn setup) (fn hold) (give setup.length (dsum need) (fn setup) (fn hold) f) s t a b i))) := by
        intro hx
        have e : gcand setup.length (dsum need) (fn setup) (fn hold) (give setup.length (dsum need) (fn setup) (fn hold) f) s t a b i = restC need setup hold f s t b i 0 := by unfold gcand restC; rw [if_neg hsm, if_neg hx]
        rw [e] at next ⊢
        exact give_j1 S hf h1 h2 ha (by omega) h5 h6 (by omega) ih next
      by_cases q1 : i > a + 1
      · exact Ev.pos (by omega) (hno (by omega))
      · refine Ev.neg (by omega) ?_
        by_cases q2 : i > a
        · refine Ev.pos (by omega) ?_
          by_cases q3 : a > t
          · exact Ev.pos (by omega) (hno (by omega))
          · exact Ev.neg (by omega) (Ev.neg (by omega) (hyes (by omega)))
        · refine Ev.neg (by omega) (Ev.pos (by omega) ?_)
          by_cases q3 : a = t
          · exact Ev.pos (by omega) (hno (by omega))
          · exact Ev.neg (by omega) (hyes (by omega))
theorem give_ev : ∀ f, f ≤ 10 → ∀ s t a b, s < setup.length → t ≤ a → a ≤ b → b ≤ need.length → (b - t) + (setup.length - s) ≤ f → Ev (fun k => spec_l7Give.f k need setup hold (s : Int) (t : Int) (a : Int) (b : Int)) (give setup.length (dsum need) (fn setup) (fn hold) f s t a b)
  | 0, _, s, t, a, b, h1, h2, h3, h4, h5 => by omega
  | f + 1, hf, s, t, a, b, h1, h2, h3, h4, h5 => by
    refine Ev.step (fun k => spec_l7Give.f.eq_2 ..) ?_
    refine Ev.pos (by omega) (Ev.pos (by omega) (Ev.pos (by omega) (Ev.bind (slice_sum S h3 h4) ?_)))
    unfold give
    by_cases hz : dsum need b - dsum need a = 0
    · rw [if_pos hz]; exact Ev.pos hz (Ev.now _)
    · rw [if_neg hz]
      exact Ev.neg hz (give_l0 S (by omega) h1 h2 h4 h5 (give_ev f (by omega)) (b + 1 - a) a (-1) (Nat.le_refl _) (by omega))
end
end Go.Proofs.Ythlmmcmpllgflaa.P
namespace Go.Proofs.Ythlmmcmpllgflaa.P
open Go.RowKit Go.Proofs.YthlmmcmpllgflaaW.PrintWords Go.Proofs.YthlmmcmpllgflaaW.PrintLast Go.Proofs.YthlmmcmpllgflaaW.PrintMore ChainMath
def o7 (need setup hold : List Int) (a : Nat) : Int := out7 setup.length need.length (dsum need) (fn setup) (fn hold) (need.length + setup.length) a
def g7 (need setup hold : List Int) (a b : Nat) : Int := give setup.length (dsum need) (fn setup) (fn hold) (need.length + setup.length) 0 a a b
def arr7 (need setup hold : List Int) (a : Nat) : List Int := (List.range (need.length + 1)).map fun j => if a ≤ j then o7 need setup hold j else 0
section
variable {need setup hold : List Int}
theorem arr7_len (a : Nat) : (arr7 need setup hold a).length = need.length + 1 := by simp [arr7]
theorem arr7_get (a : Nat) {j : Nat} (h : j ≤ need.length) : (arr7 need setup hold a).getD j 0 = if a ≤ j then o7 need setup hold j else 0 := by
  unfold arr7; rw [List.getD_eq_getElem?_getD, List.getElem?_map, List.getElem?_range (by omega)]; rfl
theorem arr7_set (a : Nat) (h : a ≤ need.length) : (arr7 need setup hold (a + 1)).set a (o7 need setup hold a) = arr7 need setup hold a := by
  refine ext_getD (by rw [List.length_set, arr7_len, arr7_len]) fun t ht => ?_
  rw [List.length_set, arr7_len] at ht
  rw [getD_set _ _ _ _ (by rw [arr7_len]; omega), arr7_get _ (by omega), arr7_get _ (by omega)]
  by_cases e : t = a
  · subst e; rw [if_pos rfl, if_pos (Nat.le_refl _)]
  · rw [if_neg e]
    by_cases h2 : a ≤ t
    · rw [if_pos (by omega), if_pos h2]
    · rw [if_neg (by omega), if_neg h2]
variable (S : Small need setup hold)
include S
theorem g7_bound {a b : Nat} (h : a ≤ b) (hb : b ≤ need.length) : 0 ≤ g7 need setup hold a b ∧ g7 need setup hold a b ≤ 10000000 := by
  have := giveU S (need.length + setup.length) 0 a a b S.m0 (Nat.le_refl _) h hb (by omega)
  have h2 := U_le (f := need.length + setup.length) (by have := S.n; have := S.m; omega)
  unfold g7; omega
theorem g7_ev {a b : Nat} (h : a ≤ b) (hb : b ≤ need.length) : Ev (fun k => spec_l7Give.f k need setup hold 0 (a : Int) (a : Int) (b : Int)) (g7 need setup hold a b) :=
  give_ev S (need.length + setup.length) (by have := S.n; have := S.m; omega) 0 a a b S.m0 (Nat.le_refl _) h hb (by omega)
omit S in
theorem need_D {a : Nat} (h : a < need.length) : dsum need (a + 1) - dsum need a = need.getD a 0 := by rw [dsum_succ need h]; omega
theorem o7_bound : ∀ d a, a + d = need.length → 0 ≤ o7 need setup hold a ∧ o7 need setup hold a ≤ 10000099
  | 0, a, h => by
    have : a = need.length := by omega
    subst this; unfold o7; rw [out7_n]; omega
  | d + 1, a, h => by
    have ih := o7_bound d (a + 1) (by omega)
    refine ⟨out7_nonneg S.D S.su0 S.ho0 S.m0 (Nat.le_refl _) (d + 1) a h, ?_⟩
    unfold o7 at ih ⊢
    rw [out7_step (by omega)]
    split
    · exact ih.2
    · have hb := g7_bound S (show a ≤ need.length by omega) (Nat.le_refl _)
      have hs := S.su S.m0
      have hl := least_spec (fun b => some (fn setup 0 + give setup.length (dsum need) (fn setup) (fn hold) (need.length + setup.length) 0 a a b + out7 setup.length need.length (dsum need) (fn setup) (fn hold) (need.length + setup.length) b)) (List.range' (a + 1) (need.length - a)) (-1) ?_ (by omega)
      · have := hl.2.2.1 need.length _ (by rw [List.mem_range'_1]; omega) rfl
        rw [out7_n] at this
        unfold g7 at hb; omega
      · intro b c hm hc
        rw [List.mem_range'_1] at hm
        simp only [Option.some.injEq] at hc
        have h1 := g7_bound S (show a ≤ b by omega) (show b ≤ need.length by omega)
        have h2 := out7_nonneg S.D S.su0 S.ho0 S.m0 (Nat.le_refl (need.length + setup.length)) (need.length - b) b (by omega)
        unfold g7 at h1; omega
theorem best_l1 {a : Nat} (ha : a < need.length) {R : Int} (hR : Ev (fun k => spec_l7Best.l0 k (need.length : Int) (arr7 need setup hold a) ((a : Int) - 1) need setup hold) R) (hz : ¬ dsum need (a + 1) - dsum need a = 0) : ∀ (d b : Nat) (best : Int), a + 1 ≤ b → b + d = need.length + 1 →
    least (fun b => some (fn setup 0 + g7 need setup hold a b + o7 need setup hold b)) (List.range' b d) best = o7 need setup hold a →
    Ev (fun k => spec_l7Best.l1 k (need.length : Int) ((arr7 need setup hold (a + 1)).set a best) (a : Int) (b : Int) need setup hold) R
  | 0, b, best, hb, h, hl => by
    refine Ev.step (fun k => spec_l7Best.l1.eq_2 ..) ?_
    refine Ev.neg (by omega) ?_
    have e : best = o7 need setup hold a := hl
    have hn := S.n
    rw [wr (by omega) (by omega), e, arr7_set a (by omega)]; exact hR
  | d + 1, b, best, hb, h, hl => by
    have hn := S.n; have hm := S.m; have hm0 := S.m0
    have hlen : ((arr7 need setup hold (a + 1)).set a best).length = need.length + 1 := by rw [List.length_set, arr7_len]
    have next := best_l1 ha hR hz d (b + 1) (upd best (some (fn setup 0 + g7 need setup hold a b + o7 need setup hold b))) (by omega) (by omega) hl
    refine Ev.step (fun k => spec_l7Best.l1.eq_2 ..) ?_
    refine Ev.pos (by omega) (Ev.pos (by omega) (Ev.bind (g7_ev S (by omega) (by omega)) ?_))
    refine Ev.pos (by omega) (Ev.pos (by omega) (Ev.pos (by omega) (Ev.pos (by omega) ?_)))
    have hg := g7_bound S (show a ≤ b by omega) (show b ≤ need.length by omega)
    have ho := o7_bound S (need.length - b) b (by omega)
    have hs := S.su hm0
    rw [rd_nat, rd_nat, getD_set _ _ _ _ (by rw [arr7_len]; omega), getD_set _ _ _ _ (by rw [arr7_len]; omega), if_neg (show ¬ b = a by omega), if_pos rfl, arr7_get _ (by omega), if_pos (by omega),
      show rd setup 0 = fn setup 0 from rfl, wrS (by omega), Int.toNat_natCast, List.set_set]
    generalize g7 need setup hold a b = g at *
    generalize o7 need setup hold b = o at *
    rw [wr (n := fn setup 0 + g) (by omega) (by omega), wr (n := fn setup 0 + g + o) (by omega) (by omega)]
    unfold upd at next; dsimp only at next
    by_cases q1 : best < 0
    · rw [if_pos (.inl q1)] at next; exact Ev.pos q1 next
    · refine Ev.neg q1 ?_
      by_cases q2 : fn setup 0 + g + o < best
      · rw [if_pos (.inr q2)] at next; exact Ev.pos q2 next
      · rw [if_neg (by omega)] at next; exact Ev.neg q2 next
theorem best_l0 : ∀ a, a ≤ need.length → Ev (fun k => spec_l7Best.l0 k (need.length : Int) (arr7 need setup hold a) ((a : Int) - 1) need setup hold) (o7 need setup hold 0)
  | 0, _ => by
    have := arr7_len (need := need) (setup := setup) (hold := hold) 0
    refine Ev.step (fun k => spec_l7Best.l0.eq_2 ..) ?_
    refine Ev.neg (by omega) (Ev.pos (by omega) ((Ev.now _).to ?_))
    rw [show ((0 : Int)) = ((0 : Nat) : Int) from rfl, rd_nat, arr7_get _ (by omega), if_pos (by omega)]
  | a + 1, h => by
    have ih := best_l0 a (by omega)
    have hn := S.n; have hm := S.m; have hm0 := S.m0
    have hlen := arr7_len (need := need) (setup := setup) (hold := hold) (a + 1)
    rw [show (((a + 1 : Nat) : Int) - 1) = (a : Int) by omega]
    refine Ev.step (fun k => spec_l7Best.l0.eq_2 ..) ?_
    refine Ev.pos (by omega) (Ev.pos (by omega) (Ev.pos (by omega) ?_))
    rw [wrS (i := a) (by omega), wr (n := (a : Int) - 1) (by omega) (by omega), rd_nat, ← need_D (by omega), rd_nat, arr7_get _ (by omega), if_pos (by omega), Int.toNat_natCast]
    have hst : o7 need setup hold a = _ := out7_step (m := setup.length) (n := need.length) (D := dsum need) (setup := fn setup) (hold := fn hold) (F := need.length + setup.length) (a := a) (by omega)
    by_cases hz : dsum need (a + 1) - dsum need a = 0
    · rw [if_pos hz] at hst
      refine Ev.pos hz (Ev.pos (by omega) (Ev.pos (by omega) (Ev.pos (by omega) ?_)))
      rw [show o7 need setup hold (a + 1) = o7 need setup hold a from hst.symm, arr7_set a (by omega)]; exact ih
    · rw [if_neg hz] at hst
      refine Ev.neg hz (Ev.pos (by omega) ?_)
      exact best_l1 S (by omega) ih hz (need.length - a) (a + 1) (-1) (Nat.le_refl _) (by omega) hst.symm
theorem l7Best_ev : Ev (fun k => spec_l7Best.f k need setup hold) (o7 need setup hold 0) := by
  have hn := S.n
  unfold spec_l7Best.f
  rw [wrS (by omega), wr (by omega) (by omega), Int.toNat_natCast]
  have e : List.replicate (need.length + 1) (0 : Int) = arr7 need setup hold need.length := by
    refine ext_getD (by rw [List.length_replicate, arr7_len]) fun t ht => ?_
    rw [List.length_replicate] at ht
    rw [arr7_get _ (by omega), List.getD_eq_getElem?_getD, List.getElem?_replicate, if_pos ht]
    by_cases h : need.length ≤ t
    · rw [if_pos h, show t = need.length by omega]; unfold o7; rw [out7_n]; rfl
    · rw [if_neg h]; rfl
  rw [e]
  exact Ev.pos (by omega) (Ev.pos (by omega) (best_l0 S need.length (Nat.le_refl _)))
end
theorem BestChainCostS_ev (need setup hold : List Int) (h1 : need.length < 1000000000) (h2 : setup.length < 1000000000) (h3 : hold.length < 1000000000) :
    Ev (fun k => spec_BestChainCost.f k need setup hold) (if chainB need setup hold = true then (o7 need setup hold 0, true) else (0, false)) := by
  unfold spec_BestChainCost.f
  refine Ev.bind (l7Good_ev need setup hold h1 h2 h3) ?_
  by_cases hg : chainB need setup hold = true
  · rw [if_pos hg]
    exact Ev.pos hg (Ev.bind (l7Best_ev (small_of hg)) (Ev.now _))
  · rw [if_neg hg]
    exact Ev.neg hg (Ev.now _)
end Go.Proofs.Ythlmmcmpllgflaa.P
namespace Go.Proofs.Ythlmmcmpllgflaa.P
open Go.RowKit Go.Proofs.YthlmmcmpllgflaaW.PrintWords Go.Proofs.YthlmmcmpllgflaaW.PrintLast Go.Proofs.YthlmmcmpllgflaaW.PrintMore ChainMath
theorem evenCase_l0 (a b : Int) (need z : List Int) (n : Nat) (hn : n ≤ 1000000) : ∀ (d i : Nat) (x y : List Int), i + d = n → x.length = i → y.length = i →
    Ev (fun k => impl_evenCase.l0 k a b (n : Int) (i : Int) need x z y) (need, x ++ List.replicate d a, z, y ++ List.replicate d b)
  | 0, i, x, y, h, _, _ => by
    refine Ev.step (fun k => impl_evenCase.l0.eq_2 ..) ?_
    exact Ev.neg (by omega) ((Ev.now _).to (by simp))
  | d + 1, i, x, y, h, hx, hy => by
    refine Ev.step (fun k => impl_evenCase.l0.eq_2 ..) ?_
    refine Ev.pos (by omega) ?_
    simp only [Option.bind_some]
    refine Ev.pos (by simp; omega) (Ev.pos (by simp; omega) ?_)
    rw [wrS (by omega)]
    refine (evenCase_l0 a b need z n hn d (i + 1) (x ++ [a]) (y ++ [b]) (by omega) (by simp [hx]) (by simp [hy])).to ?_
    simp [List.replicate_succ]
theorem evenCase_ev (need : List Int) (a b : Int) (hn : need.length ≤ 1000000) :
    Ev (fun k => impl_evenCase.f k need a b) (need, List.replicate need.length a, List.replicate need.length 0, List.replicate need.length b) := by
  unfold impl_evenCase.f
  refine Ev.bind (Ev.const (copied_eq need (by omega))) (Ev.pos (by omega) (Ev.pos (by omega) ?_))
  exact (evenCase_l0 a b need _ need.length hn need.length 0 [] [] (by omega) rfl rfl).to (by simp)
def nestedOf (need : List Int) (Os : List (Nat → Bool)) : List (List Int) × Bool := if ∀ O ∈ Os, cover need O then (Os.map (planOf need), true) else ([], false)
theorem nested_l0 (need setup hold : List Int) (Os : List (Nat → Bool)) (hl : need.length ≤ 1000) (hn : ∀ x ∈ need, 0 ≤ x ∧ x ≤ 1000000) (hO : Os.length ≤ 1000) : ∀ d i, i + d = Os.length → (∀ O ∈ Os.take i, cover need O) →
    Ev (fun k => impl_Chain_nested.l0 k ((Os.take i).map (planOf need)) (Os.map fun O => per O need.length) (Os.length : Int) (i : Int) need setup hold) (nestedOf need Os)
  | 0, i, h, hc => by
    refine Ev.step (fun k => impl_Chain_nested.l0.eq_2 ..) ?_
    refine Ev.neg (by omega) ((Ev.now _).to ?_)
    rw [List.take_of_length_le (by omega)] at hc ⊢
    unfold nestedOf; rw [if_pos hc]
  | d + 1, i, h, hc => by
    have hi : i < Os.length := by omega
    refine Ev.step (fun k => impl_Chain_nested.l0.eq_2 ..) ?_
    refine Ev.pos (by omega) (Ev.pos (by omega) (Ev.pos (by rw [List.length_map]; omega) (Ev.bind (evenCase_ev need 0 0 (by omega)) ?_)))
    rw [rdL_nat]
    have e : (Os.map fun O => per O need.length).getD i [] = per Os[i] need.length := by
      rw [List.getD_eq_getElem?_getD, List.getElem?_map, List.getElem?_eq_getElem hi]; rfl
    rw [e]
    refine Ev.bind (planFrom_ev need _ _ _ Os[i] hl hn) ?_
    by_cases hcv : cover need Os[i]
    · rw [if_pos hcv]
      refine Ev.pos rfl (Ev.pos (by rw [List.length_map, List.length_take]; omega) ?_)
      rw [wrS (by omega)]
      have e2 : (Os.take i).map (planOf need) ++ [planOf need Os[i]] = (Os.take (i + 1)).map (planOf need) := by rw [List.take_succ_eq_append_getElem hi, List.map_append]; rfl
      rw [e2]
      refine nested_l0 need setup hold Os hl hn hO d (i + 1) (by omega) ?_
      intro O hO2
      rw [List.take_succ_eq_append_getElem hi, List.mem_append] at hO2
      rcases hO2 with h2 | h2
      · exact hc O h2
      · simp at h2; rw [h2]; exact hcv
    · rw [if_neg hcv]
      refine Ev.neg (by simp) ((Ev.now _).to ?_)
      unfold nestedOf; rw [if_neg (fun h2 => hcv (h2 _ (List.getElem_mem hi)))]
theorem nested_ev (need setup hold : List Int) (Os : List (Nat → Bool)) (hl : need.length ≤ 1000) (hn : ∀ x ∈ need, 0 ≤ x ∧ x ≤ 1000000) (hO : Os.length ≤ 1000) :
    Ev (fun k => impl_Chain_nested.f k need setup hold (Os.map fun O => per O need.length)) (nestedOf need Os) := by
  unfold impl_Chain_nested.f
  rw [List.length_map]
  exact nested_l0 need setup hold Os hl hn hO Os.length 0 (by omega) (by simp)
theorem dsum_planOf (need : List Int) (O : Nat → Bool) (hc : cover need O) : ∀ t, t ≤ need.length → dsum (planOf need O) t = dsum need (nxt O need.length t)
  | 0, _ => by rw [dsum_zero]; exact hc.symm
  | t + 1, h => by
    rw [dsum_succ _ (by rw [planOf_len]; omega), dsum_planOf need O hc t (by omega), planOf_get need O (by omega)]
    by_cases ho : O t = true
    · rw [if_pos ho, nxt_self O ho]; omega
    · have ho : O t = false := by simpa using ho
      rw [if_neg (by simp [ho]), nxt_step O ho (by omega)]; omega
theorem planOf_amt (need : List Int) (O : Nat → Bool) (hn : need.length ≤ 6) (hneed : need.all (inB 0 20) = true) {t : Nat} (ht : t < need.length) : 0 ≤ (planOf need O).getD t 0 ∧ (planOf need O).getD t 0 ≤ 120 := by
  rw [planOf_get need O ht]
  split
  · have h1 := nxt_ge O need.length (t + 1); have h2 := nxt_le O (n := need.length) (t := t + 1) (by omega)
    have h3 := dsum_mono need (fun x hx => (inB_mem hneed hx).1) t (nxt O need.length (t + 1)) (by omega) h2
    have h4 := dsum_bound need 20 (fun x hx => inB_mem hneed hx) t (by omega)
    have h5 := dsum_bound need 20 (fun x hx => inB_mem hneed hx) (nxt O need.length (t + 1)) h2
    omega
  · omega
theorem all_getD {l : List Int} {lo hi : Int} (h : ∀ t, t < l.length → lo ≤ l.getD t 0 ∧ l.getD t 0 ≤ hi) : l.all (inB lo hi) = true := by
  rw [List.all_eq_true]
  intro x hx
  obtain ⟨i, hi, e⟩ := List.getElem_of_mem hx
  have := h i hi
  rw [List.getD_eq_getElem?_getD, List.getElem?_eq_getElem hi] at this
  simp at this; unfold inB; rw [e] at this; simpa using this
theorem planOf_stage (need q : List Int) (O : Nat → Bool) (hn : need.length ≤ 6) (hneed : need.all (inB 0 20) = true) (hc : cover need O) (hq : q.length = need.length) (hqb : q.all (inB 0 120) = true)
    (hle : ∀ t, t ≤ need.length → dsum q t ≤ dsum need (nxt O need.length t)) (hend : dsum q need.length = dsum need need.length) : stageB need.length (planOf need O) q = true := by
  have h1 : (planOf need O).all (inB 0 120) = true := all_getD fun t ht => planOf_amt need O hn hneed (by rw [planOf_len] at ht; exact ht)
  have h2 : goesB need.length (planOf need O) q 0 = true := by
    unfold goesB
    rw [Bool.and_eq_true]
    refine ⟨?_, ?_⟩
    · rw [List.all_eq_true]
      intro t ht
      rw [List.mem_range'_1] at ht
      rw [dsum_planOf need O hc _ (by omega)]
      have := hle (t + 1) (by omega)
      simpa using this
    · rw [dsum_planOf need O hc _ (Nat.le_refl _), nxt_n, hend]; simp
  unfold stageB
  rw [h1, h2, hqb, decide_eq_true (planOf_len need O), decide_eq_true hq]; rfl
structure NestL (need : List Int) (Os : List (Nat → Bool)) : Prop where
  cov : ∀ O ∈ Os, cover need O
  sub : ∀ s t (h : s + 1 < Os.length), Os[s] t = true → Os[s + 1] t = true
theorem nest_nxt {need : List Int} {Os : List (Nat → Bool)} (hs : ∀ s t (h : s + 1 < Os.length), Os[s] t = true → Os[s + 1] t = true) {s t : Nat} (h : s + 1 < Os.length) (ht : t ≤ need.length) : nxt Os[s + 1] need.length t ≤ nxt Os[s] need.length t := by
  by_cases e : nxt Os[s] need.length t < need.length
  · exact nxt_min _ (nxt_ge _ _ _) (hs s _ h (nxt_in _ e))
  · have := nxt_le Os[s + 1] ht; omega
theorem nested_rows (need : List Int) (hn : need.length ≤ 6) (hneed : need.all (inB 0 20) = true) : ∀ (Os : List (Nat → Bool)), NestL need Os → ∃ rows, rowsFrom need (Os.map (planOf need)) = some rows
  | [], _ => ⟨[], rfl⟩
  | O :: Os, h => by
    have hD := dsum_mono need (fun x hx => (inB_mem hneed hx).1)
    obtain ⟨rows, hr⟩ := nested_rows need hn hneed Os ⟨fun O' hO' => h.cov O' (by simp [hO']), fun s t hs ho => h.sub (s + 1) t (by simpa using hs) ho⟩
    have hst : stageB need.length (planOf need O) ((Os.map (planOf need)).headD need) = true := by
      cases Os with
      | nil =>
        refine planOf_stage need need O hn hneed (h.cov O (by simp)) rfl ?_ (fun t ht => hD t _ (nxt_ge _ _ _) (nxt_le _ ht)) rfl
        rw [List.all_eq_true] at hneed ⊢
        intro x hx; have := hneed x hx; unfold inB at this ⊢; simp at this ⊢; omega
      | cons O2 Os =>
        have hc2 := h.cov O2 (by simp)
        refine planOf_stage need (planOf need O2) O hn hneed (h.cov O (by simp)) (planOf_len _ _) (all_getD fun t ht => planOf_amt need O2 hn hneed (by rw [planOf_len] at ht; exact ht)) (fun t ht => ?_) ?_
        · rw [dsum_planOf need O2 hc2 t ht]
          exact hD _ _ (nest_nxt (s := 0) h.sub (by simp) ht) (nxt_le _ ht)
        · rw [dsum_planOf need O2 hc2 _ (Nat.le_refl _), nxt_n]
    exact ⟨rowOf need.length (planOf need O) ((Os.map (planOf need)).headD need) :: rows, by simp only [List.map_cons, rowsFrom]; rw [if_pos hst, hr]; rfl⟩
end Go.Proofs.Ythlmmcmpllgflaa.P
namespace Go.Proofs.Ythlmmcmpllgflaa.P
open Go.RowKit Go.Proofs.YthlmmcmpllgflaaW.PrintWords Go.Proofs.YthlmmcmpllgflaaW.PrintLast Go.Proofs.YthlmmcmpllgflaaW.PrintMore ChainMath
theorem pow_small {a i : Nat} (ha : a ≤ 4) (hi : i ≤ 6) : a ^ i ≤ 4096 :=
  Nat.le_trans (Nat.pow_le_pow_left ha i) (Nat.le_trans (Nat.pow_le_pow_right (by omega) hi) (by decide))
theorem power_l0 (a n : Nat) (ha : a ≤ 4) (hn : n ≤ 6) : ∀ d i, i + d = n → Ev (fun k => impl_power.l0 k (a : Int) ((a ^ i : Nat) : Int) (n : Int) (i : Int)) ((a ^ n : Nat) : Int)
  | 0, i, h => by
    refine Ev.step (fun k => impl_power.l0.eq_2 ..) ?_
    exact Ev.neg (by omega) ((Ev.now _).to (by rw [show i = n by omega]))
  | d + 1, i, h => by
    refine Ev.step (fun k => impl_power.l0.eq_2 ..) ?_
    have h1 := pow_small (a := a) (i := i + 1) ha (by omega)
    refine Ev.pos (by omega) ?_
    have e : wrap64 (((a ^ i : Nat) : Int) * (a : Int)) = ((a ^ (i + 1) : Nat) : Int) := by
      rw [Nat.pow_succ] at h1 ⊢
      rw [← Int.natCast_mul]
      exact wr (by omega) (by omega)
    rw [e, wrS (by omega)]
    exact power_l0 a n ha hn d (i + 1) (by omega)
theorem power_ev (a n : Nat) (ha : a ≤ 4) (hn : n ≤ 6) : Ev (fun k => impl_power.f k (a : Int) (n : Int)) ((a ^ n : Nat) : Int) := by
  unfold impl_power.f
  exact power_l0 a n ha hn n 0 (by omega)
def cmpL : List Int → List Int → Int
  | [], [] => 0
  | [], _ :: _ => -1
  | _ :: _, [] => 1
  | x :: a, y :: b => if x < y then -1 else if x > y then 1 else cmpL a b
def cmpLL : List (List Int) → List (List Int) → Int
  | [], [] => 0
  | [], _ :: _ => -1
  | _ :: _, [] => 1
  | x :: a, y :: b => if cmpL x y = 0 then cmpLL a b else cmpL x y
theorem cmpCompare_eq (a b : Int) : cmp_Compare_int.f a b = some (if a < b then -1 else if a > b then 1 else 0) := by
  unfold cmp_Compare_int.f cmp_isNaN_int.f
  by_cases h : a < b
  · simp [h]
  · by_cases h2 : a > b <;> simp [h, h2]
theorem Compare_l0 (a b : List Int) (ha : a.length < 4611686018427387904) : ∀ d i, i + d = a.length → Ev (fun k => slices_Compare_int_int.l0 k a b a (a.length : Int) (i : Int)) (cmpL (a.drop i) (b.drop i))
  | 0, i, h => by
    refine Ev.step (fun k => slices_Compare_int_int.l0.eq_2 ..) ?_
    refine Ev.neg (by omega) ?_
    rw [List.drop_of_length_le (l := a) (by omega)]
    by_cases hl : a.length < b.length
    · refine Ev.pos (by omega) ((Ev.now _).to ?_)
      rw [drop_cons b 0 (by omega)]; rfl
    · refine Ev.neg (by omega) ((Ev.now _).to ?_)
      rw [List.drop_of_length_le (l := b) (by omega)]; rfl
  | d + 1, i, h => by
    refine Ev.step (fun k => slices_Compare_int_int.l0.eq_2 ..) ?_
    refine Ev.pos (by omega) (Ev.pos (by omega) (Ev.pos (by omega) ?_))
    rw [drop_cons a 0 (by omega)]
    by_cases hl : (i : Int) ≥ b.length
    · refine Ev.pos hl ((Ev.now _).to ?_)
      rw [List.drop_of_length_le (l := b) (by omega)]; rfl
    · refine Ev.neg hl (Ev.pos (by omega) (Ev.bind (Ev.const (cmpCompare_eq _ _)) ?_))
      rw [drop_cons b 0 (by omega), rd_nat, rd_nat]
      simp only [cmpL]
      by_cases h1 : a.getD i 0 < b.getD i 0
      · rw [if_pos h1, if_pos h1]; exact Ev.neg (by omega) (Ev.now _)
      · rw [if_neg h1, if_neg h1]
        by_cases h2 : a.getD i 0 > b.getD i 0
        · rw [if_pos h2, if_pos h2]; exact Ev.neg (by omega) (Ev.now _)
        · rw [if_neg h2, if_neg h2]
          refine Ev.pos rfl ?_
          rw [wrS (by omega)]; exact Compare_l0 a b ha d (i + 1) (by omega)
theorem Compare_ev (a b : List Int) (ha : a.length < 4611686018427387904) : Ev (fun k => slices_Compare_int_int.f k a b) (cmpL a b) := by
  unfold slices_Compare_int_int.f
  exact (Compare_l0 a b ha a.length 0 (by omega)).to (by simp)
theorem CompareFunc_l0 (a b : List (List Int)) (ha : a.length < 4611686018427387904) (hal : ∀ l ∈ a, l.length < 4611686018427387904) : ∀ d i, i + d = a.length → Ev (fun k => slices_CompareFunc_int_int_int_int.l0 k a b a (a.length : Int) (i : Int)) (cmpLL (a.drop i) (b.drop i))
  | 0, i, h => by
    refine Ev.step (fun k => slices_CompareFunc_int_int_int_int.l0.eq_2 ..) ?_
    refine Ev.neg (by omega) ?_
    rw [List.drop_of_length_le (l := a) (by omega)]
    by_cases hl : a.length < b.length
    · refine Ev.pos (by omega) ((Ev.now _).to ?_)
      rw [drop_cons b [] (by omega)]; rfl
    · refine Ev.neg (by omega) ((Ev.now _).to ?_)
      rw [List.drop_of_length_le (l := b) (by omega)]; rfl
  | d + 1, i, h => by
    refine Ev.step (fun k => slices_CompareFunc_int_int_int_int.l0.eq_2 ..) ?_
    refine Ev.pos (by omega) (Ev.pos (by omega) (Ev.pos (by omega) ?_))
    rw [drop_cons a [] (by omega)]
    by_cases hl : (i : Int) ≥ b.length
    · refine Ev.pos hl ((Ev.now _).to ?_)
      rw [List.drop_of_length_le (l := b) (by omega)]; rfl
    · have hm : a.getD i [] ∈ a := by rw [List.getD_eq_getElem?_getD, List.getElem?_eq_getElem (by omega)]; simp
      have hcl : Ev (fun k => impl_Chain_bestNested_1.f k (a.getD i []) (b.getD i [])) (cmpL (a.getD i []) (b.getD i [])) := by
        unfold impl_Chain_bestNested_1.f
        exact Ev.bind (Compare_ev _ _ (hal _ hm)) (Ev.now _)
      rw [rdL_nat, rdL_nat]
      refine Ev.neg hl (Ev.pos (by omega) (Ev.bind hcl ?_))
      rw [drop_cons b [] (by omega)]
      simp only [cmpLL]
      by_cases h1 : cmpL (a.getD i []) (b.getD i []) = 0
      · rw [if_pos h1]
        refine Ev.pos h1 ?_
        rw [wrS (by omega)]; exact CompareFunc_l0 a b ha hal d (i + 1) (by omega)
      · rw [if_neg h1]; exact Ev.neg h1 (Ev.now _)
theorem CompareFunc_ev (a b : List (List Int)) (ha : a.length < 4611686018427387904) (hal : ∀ l ∈ a, l.length < 4611686018427387904) : Ev (fun k => slices_CompareFunc_int_int_int_int.f k a b) (cmpLL a b) := by
  unfold slices_CompareFunc_int_int_int_int.f
  exact (CompareFunc_l0 a b ha hal a.length 0 (by omega)).to (by simp)
def dig (m code t : Nat) : Nat := code / (m + 1) ^ t % (m + 1)
theorem dig_le (m code t : Nat) : dig m code t ≤ m := by unfold dig; have := Nat.mod_lt (code / (m + 1) ^ t) (show m + 1 > 0 by omega); omega
def Qc (m code s t : Nat) : Bool := decide (m ≤ s + dig m code t)
def sumD (m code : Nat) : Nat → Int
  | 0 => 0
  | t + 1 => sumD m code t + (dig m code t : Int)
def listsTo (m code i : Nat) : List (List Int) := (List.range m).map fun s => per (Qc m code s) i
theorem per_succ (O : Nat → Bool) (n : Nat) : per O (n + 1) = per O n ++ (if O n then [(n : Int)] else []) := by
  unfold per; rw [perN_succ, List.map_append]; split <;> simp
theorem sumD_bound (m code : Nat) : ∀ t, 0 ≤ sumD m code t ∧ sumD m code t ≤ (m : Int) * (t : Int)
  | 0 => by simp [sumD]
  | t + 1 => by
    have h1 := sumD_bound m code t; have h2 := dig_le m code t
    simp only [sumD, Int.natCast_add, Int.mul_add]; simp; omega
def listsMid (m code i j : Nat) : List (List Int) := (List.range m).map fun s => if m - dig m code i ≤ s ∧ s < j then per (Qc m code s) i ++ [(i : Int)] else per (Qc m code s) i
theorem listsMid_start (m code i : Nat) : listsMid m code i (m - dig m code i) = listsTo m code i := by
  unfold listsMid listsTo
  exact List.map_congr_left fun s _ => if_neg (by omega)
theorem listsMid_end (m code i : Nat) : listsMid m code i m = listsTo m code (i + 1) := by
  unfold listsMid listsTo
  refine List.map_congr_left fun s hs => ?_
  rw [List.mem_range] at hs
  rw [per_succ]
  by_cases h : m - dig m code i ≤ s
  · rw [if_pos ⟨h, hs⟩, if_pos (by unfold Qc; simp; omega)]
  · rw [if_neg (fun e => h e.1), if_neg (by unfold Qc; simp; omega)]; simp
theorem listsMid_get (m code i j : Nat) {s : Nat} (h : s < m) : (listsMid m code i j).getD s [] = if m - dig m code i ≤ s ∧ s < j then per (Qc m code s) i ++ [(i : Int)] else per (Qc m code s) i := by
  unfold listsMid; rw [List.getD_eq_getElem?_getD, List.getElem?_map, List.getElem?_range h]; rfl
theorem listsMid_len (m code i j : Nat) : (listsMid m code i j).length = m := by simp [listsMid]
theorem ext_getDL {a b : List (List Int)} (hl : a.length = b.length) (h : ∀ t, t < a.length → a.getD t [] = b.getD t []) : a = b := by
  apply List.ext_getElem hl
  intro i h1 h2
  have := h i h1
  rw [List.getD_eq_getElem?_getD, List.getElem?_eq_getElem h1, List.getD_eq_getElem?_getD, List.getElem?_eq_getElem h2] at this
  exact this
theorem listsMid_step (m code i j : Nat) (h : m - dig m code i ≤ j) (hj : j < m) : (listsMid m code i j).set j ((listsMid m code i j).getD j [] ++ [(i : Int)]) = listsMid m code i (j + 1) := by
  refine ext_getDL (by rw [List.length_set, listsMid_len, listsMid_len]) fun s hs => ?_
  rw [List.length_set, listsMid_len] at hs
  rw [listsMid_get m code i j hj, if_neg (by omega), listsMid_get m code i (j + 1) hs]
  rw [List.getD_eq_getElem?_getD, List.getElem?_set]
  by_cases e : j = s
  · subst e; rw [if_pos rfl, if_pos (by rw [listsMid_len]; exact hj), if_pos (by omega)]; rfl
  · rw [if_neg e, ← List.getD_eq_getElem?_getD, listsMid_get m code i j hs]
    by_cases h2 : m - dig m code i ≤ s ∧ s < j
    · rw [if_pos h2, if_pos (by omega)]
    · rw [if_neg h2, if_neg (by omega)]
theorem per_len_le (O : Nat → Bool) (n : Nat) : (per O n).length ≤ n := by
  rw [per_len]
  induction n with
  | zero => exact Nat.le_refl _
  | succ n ih => simp only [cnt]; split <;> omega
theorem inner_l1 (m code n i : Nat) (hm : m ≤ 3) (hn : n ≤ 6) (hi : i < n) {R : List (List Int) × Int}
    (hR : Ev (fun k => impl_Chain_bestNested_inner.l0 k (m : Int) (code : Int) (listsTo m code (i + 1)) (sumD m code (i + 1)) (n : Int) ((i + 1 : Nat) : Int)) R) : ∀ d j, j + d = m → m - dig m code i ≤ j →
    Ev (fun k => impl_Chain_bestNested_inner.l1 k (m : Int) (code : Int) (listsMid m code i j) (sumD m code i) (i : Int) (dig m code i : Int) (j : Int) (n : Int) (i : Int)) R
  | 0, j, h, hj => by
    refine Ev.step (fun k => impl_Chain_bestNested_inner.l1.eq_2 ..) ?_
    refine Ev.neg (by omega) ?_
    have h1 := sumD_bound m code i; have h2 := dig_le m code i
    have h3 : (m : Int) * (i : Int) ≤ 3 * 6 := Int.mul_le_mul (by omega) (by omega) (by omega) (by omega)
    rw [wr (by omega) (by omega), wrS (by omega), show j = m by omega, listsMid_end]
    exact hR
  | d + 1, j, h, hj => by
    refine Ev.step (fun k => impl_Chain_bestNested_inner.l1.eq_2 ..) ?_
    refine Ev.pos (by omega) (Ev.pos (by omega) (Ev.pos (by rw [listsMid_len]; omega) ?_))
    rw [rdL_nat, Int.toNat_natCast]
    refine Ev.pos ?_ ?_
    · rw [listsMid_get m code i j (by omega)]
      have := per_len_le (Qc m code j) i
      split
      · rw [List.length_append]; simp; omega
      · omega
    · rw [listsMid_step m code i j hj (by omega), wrS (by omega)]
      exact inner_l1 m code n i hm hn hi hR d (j + 1) (by omega) (by omega)
theorem inner_l0 (m code n : Nat) (hm : m ≤ 3) (hn : n ≤ 6) (hc : code ≤ 1000000) : ∀ d i, i + d = n →
    Ev (fun k => impl_Chain_bestNested_inner.l0 k (m : Int) (code : Int) (listsTo m code i) (sumD m code i) (n : Int) (i : Int)) (listsTo m code n, sumD m code n)
  | 0, i, h => by
    refine Ev.step (fun k => impl_Chain_bestNested_inner.l0.eq_2 ..) ?_
    exact Ev.neg (by omega) ((Ev.now _).to (by rw [show i = n by omega]))
  | d + 1, i, h => by
    refine Ev.step (fun k => impl_Chain_bestNested_inner.l0.eq_2 ..) ?_
    have e1 : wrap64 ((m : Int) + 1) = ((m + 1 : Nat) : Int) := wrS (by omega)
    rw [e1]
    refine Ev.pos (by omega) (Ev.bind (power_ev (m + 1) i (by omega) (by omega)) ?_)
    have hp : 0 < (m + 1) ^ i := Nat.pow_pos (by omega)
    have e2 : Int.tmod (wrap64 (Int.tdiv (code : Int) (((m + 1) ^ i : Nat) : Int))) ((m + 1 : Nat) : Int) = (dig m code i : Int) := by
      have h1 : Int.tdiv (code : Int) (((m + 1) ^ i : Nat) : Int) = ((code / (m + 1) ^ i : Nat) : Int) := rfl
      have h2 : code / (m + 1) ^ i ≤ code := Nat.div_le_self _ _
      rw [h1]
      unfold dig
      generalize code / (m + 1) ^ i = x at *
      rw [wr (n := (x : Int)) (by omega) (by omega)]; rfl
    rw [e2]
    have h2 := dig_le m code i
    have e3 : wrap64 ((m : Int) - (dig m code i : Int)) = ((m - dig m code i : Nat) : Int) := by rw [wr (by omega) (by omega)]; omega
    rw [e3]
    refine Ev.neg (by omega) (Ev.neg (by omega) ?_)
    have h4 := inner_l1 m code n i hm hn (by omega) (inner_l0 m code n hm hn hc d (i + 1) (by omega)) (dig m code i) (m - dig m code i) (by omega) (Nat.le_refl _)
    rw [listsMid_start] at h4
    exact h4
theorem inner_ev (m code n : Nat) (hm : m ≤ 3) (hn : n ≤ 6) (hc : code ≤ 1000000) : Ev (fun k => impl_Chain_bestNested_inner.f k (n : Int) (m : Int) (code : Int)) (listsTo m code n, sumD m code n) := by
  unfold impl_Chain_bestNested_inner.f
  refine Ev.pos (by omega) (Ev.pos (by omega) ?_)
  have e : List.replicate ((m : Int)).toNat ([] : List Int) = listsTo m code 0 := by
    unfold listsTo; rw [Int.toNat_natCast]
    refine ext_getDL (by simp) fun t ht => ?_
    simp at ht
    rw [List.getD_eq_getElem?_getD, List.getElem?_replicate, if_pos ht, List.getD_eq_getElem?_getD, List.getElem?_map, List.getElem?_range ht]; rfl
  rw [e]
  exact inner_l0 m code n hm hn hc n 0 (by omega)
def Osc (m code : Nat) : List (Nat → Bool) := (List.range m).map fun s => Qc m code s
def codeCost (need setup hold : List Int) (code : Nat) : Int := planCost need setup hold ((Osc setup.length code).map (planOf need))
abbrev BnState := List (List Int) × Int × Int
def bnStep (need setup hold : List Int) (st : BnState) (code : Nat) : BnState :=
  if ∀ O ∈ Osc setup.length code, cover need O then
    (if codeCost need setup hold code < st.2.1 ∨ (codeCost need setup hold code = st.2.1 ∧ (sumD setup.length code need.length < st.2.2 ∨ (sumD setup.length code need.length = st.2.2 ∧ cmpLL (listsTo setup.length code need.length) st.1 < 0)))
     then (listsTo setup.length code need.length, codeCost need setup hold code, sumD setup.length code need.length) else st)
  else st
def bn (need setup hold : List Int) (total : Nat) : BnState := (List.range total).foldl (bnStep need setup hold) ([], 1099511627776, 0)
theorem bn_succ (need setup hold : List Int) (t : Nat) : bn need setup hold (t + 1) = bnStep need setup hold (bn need setup hold t) t := by
  unfold bn; rw [List.range_succ, List.foldl_append]; rfl
theorem Osc_len (m code : Nat) : (Osc m code).length = m := by simp [Osc]
theorem Osc_get (m code : Nat) {s : Nat} (h : s < (Osc m code).length) : (Osc m code)[s] = Qc m code s := by simp [Osc]
theorem Osc_nest {need : List Int} {m code : Nat} (hc : ∀ O ∈ Osc m code, cover need O) : NestL need (Osc m code) :=
  ⟨hc, fun s t h ho => by
    rw [Osc_get] at ho ⊢
    unfold Qc at ho ⊢; simp at ho ⊢; omega⟩
theorem bestNested_l0 (need setup hold : List Int) (hg : chainB need setup hold = true) (total : Nat) (ht : total ≤ 4096) : ∀ d i, i + d = total →
    Ev (fun k => impl_Chain_bestNested.l0 k (need.length : Int) (setup.length : Int) (bn need setup hold i).1 (bn need setup hold i).2.1 (bn need setup hold i).2.2 (total : Int) (i : Int) need setup hold) ((bn need setup hold total).1, (bn need setup hold total).2.1)
  | 0, i, h => by
    refine Ev.step (fun k => impl_Chain_bestNested.l0.eq_2 ..) ?_
    exact Ev.neg (by omega) ((Ev.now _).to (by rw [show i = total by omega]))
  | d + 1, i, h => by
    have ih := bestNested_l0 need setup hold hg total ht d (i + 1) (by omega)
    unfold chainB at hg; simp only [Bool.and_eq_true, decide_eq_true_eq] at hg
    obtain ⟨g1, g2, g3, g4, g5, g6, g7⟩ := hg
    unfold inB at g3; simp at g3
    have hn : need.length ≤ 6 := by omega
    have hm : setup.length ≤ 3 := by omega
    refine Ev.step (fun k => impl_Chain_bestNested.l0.eq_2 ..) ?_
    refine Ev.pos (by omega) (Ev.bind (inner_ev setup.length i need.length hm hn (by omega)) ?_)
    have el : listsTo setup.length i need.length = (Osc setup.length i).map fun O => per O need.length := by unfold listsTo Osc; rw [List.map_map]; rfl
    have hnest := nested_ev need setup hold (Osc setup.length i) (by omega) (fun x hx => by have := inB_mem g2 hx; omega) (by rw [Osc_len]; omega)
    rw [← el] at hnest
    refine Ev.bind hnest ?_
    rw [bn_succ] at ih
    unfold bnStep at ih
    by_cases hc : ∀ O ∈ Osc setup.length i, cover need O
    · have e : nestedOf need (Osc setup.length i) = ((Osc setup.length i).map (planOf need), true) := by unfold nestedOf; rw [if_pos hc]
      rw [e]
      obtain ⟨rows, hr⟩ := nested_rows need hn g2 (Osc setup.length i) (Osc_nest hc)
      have ok := planOk_of need _ rows g2 hr
      have hcost := cost_ev (setup := setup) (hold := hold) hr ok hn (by rw [List.length_map, Osc_len]; exact hm) (fun x hx => inB_mem g5 hx) (fun x hx => inB_mem g6 hx) (by rw [List.length_map, Osc_len]) (by omega)
      refine Ev.pos rfl (Ev.bind hcost ?_)
      rw [if_pos hc] at ih
      generalize hst : bn need setup hold i = st at *
      obtain ⟨B, L, Ln⟩ := st
      have ec : planCost need setup hold ((Osc setup.length i).map (planOf need)) = codeCost need setup hold i := rfl
      rw [ec]
      generalize codeCost need setup hold i = c at *
      have hj2 : ∀ b : Bool, (b = true ↔ (c < L ∨ (c = L ∧ (sumD setup.length i need.length < Ln ∨ (sumD setup.length i need.length = Ln ∧ cmpLL (listsTo setup.length i need.length) B < 0))))) →
          Ev (fun k => impl_Chain_bestNested.j2 k (need.length : Int) (setup.length : Int) B L Ln (listsTo setup.length i need.length) (sumD setup.length i need.length) c (total : Int) (i : Int) b need setup hold) ((bn need setup hold total).1, (bn need setup hold total).2.1) := by
        intro b hb
        refine Ev.step (fun k => impl_Chain_bestNested.j2.eq_2 ..) ?_
        rw [wrS (by omega)]
        cases b with
        | true => rw [if_pos (hb.1 rfl)] at ih; exact Ev.pos rfl ih
        | false => rw [if_neg (fun e => by have := hb.2 e; simp at this)] at ih; exact Ev.neg (by simp) ih
      have hj1 : ∀ b : Bool, (b = true ↔ (sumD setup.length i need.length < Ln ∨ (sumD setup.length i need.length = Ln ∧ cmpLL (listsTo setup.length i need.length) B < 0))) →
          Ev (fun k => impl_Chain_bestNested.j1 k (need.length : Int) (setup.length : Int) B L Ln (listsTo setup.length i need.length) (sumD setup.length i need.length) c b (total : Int) (i : Int) need setup hold) ((bn need setup hold total).1, (bn need setup hold total).2.1) := by
        intro b hb
        refine Ev.step (fun k => impl_Chain_bestNested.j1.eq_2 ..) ?_
        by_cases h1 : c < L
        · exact Ev.pos h1 (hj2 true (by simp [h1]))
        · refine Ev.neg h1 ?_
          by_cases h2 : c = L
          · refine Ev.pos h2 (hj2 b ?_)
            rw [hb]; simp [h2]
          · exact Ev.neg h2 (hj2 false (by simp [h1, h2]))
      by_cases h1 : sumD setup.length i need.length < Ln
      · exact Ev.pos h1 (hj1 true (by simp [h1]))
      · refine Ev.neg h1 ?_
        by_cases h2 : sumD setup.length i need.length = Ln
        · refine Ev.pos h2 (Ev.bind (CompareFunc_ev _ _ (by simp [listsTo]; omega) ?_) (hj1 _ ?_))
          · intro l hl
            unfold listsTo at hl
            obtain ⟨s, _, rfl⟩ := List.mem_map.1 hl
            have := per_len_le (Qc setup.length i s) need.length; omega
          · simp [h2]
        · exact Ev.neg h2 (hj1 false (by simp [h1, h2]))
    · have e : nestedOf need (Osc setup.length i) = ([], false) := by unfold nestedOf; rw [if_neg hc]
      rw [e]
      rw [if_neg hc] at ih
      refine Ev.neg (by simp) ?_
      rw [wrS (by omega)]; exact ih
theorem bestNested_ev (need setup hold : List Int) (hg : chainB need setup hold = true) :
    Ev (fun k => impl_Chain_bestNested.f k need setup hold) ((bn need setup hold ((setup.length + 1) ^ need.length)).1, (bn need setup hold ((setup.length + 1) ^ need.length)).2.1) := by
  have hg' := hg
  unfold chainB at hg'; simp only [Bool.and_eq_true, decide_eq_true_eq] at hg'
  obtain ⟨g1, g2, g3, g4, g5, g6, g7⟩ := hg'
  unfold inB at g3; simp at g3
  unfold impl_Chain_bestNested.f
  have e1 : wrap64 ((setup.length : Int) + 1) = ((setup.length + 1 : Nat) : Int) := wrS (by omega)
  rw [e1]
  refine Ev.bind (power_ev (setup.length + 1) need.length (by omega) (by omega)) ?_
  exact bestNested_l0 need setup hold hg _ (pow_small (by omega) (by omega)) ((setup.length + 1) ^ need.length) 0 (Nat.zero_add _)
theorem BestChainCost_ev (need setup hold : List Int) (h1 : need.length < 1000000000) (h2 : setup.length < 1000000000) (h3 : hold.length < 1000000000) :
    Ev (fun k => impl_BestChainCost.f k need setup hold) (if chainB need setup hold = true then ((bn need setup hold ((setup.length + 1) ^ need.length)).2.1, true) else (0, false)) := by
  unfold impl_BestChainCost.f
  refine Ev.bind (IsChain_ev need setup hold h1 h2 h3) ?_
  by_cases hg : chainB need setup hold = true
  · rw [if_pos hg]
    exact Ev.pos hg (Ev.bind (bestNested_ev need setup hold hg) (Ev.now _))
  · rw [if_neg hg]
    exact Ev.neg hg (Ev.now _)
end Go.Proofs.Ythlmmcmpllgflaa.P
namespace Go.Proofs.Ythlmmcmpllgflaa.P
open Go.RowKit Go.Proofs.YthlmmcmpllgflaaW.PrintWords Go.Proofs.YthlmmcmpllgflaaW.PrintLast Go.Proofs.YthlmmcmpllgflaaW.PrintMore ChainMath
theorem nxtF_congr {O P : Nat → Bool} : ∀ f t, (∀ u, t ≤ u → u < t + f → O u = P u) → nxtF O f t = nxtF P f t
  | 0, _, _ => rfl
  | f + 1, t, h => by
    unfold nxtF; rw [h t (Nat.le_refl _) (by omega), nxtF_congr f (t + 1) (fun u h1 h2 => h u (by omega) (by omega))]
theorem nxt_congr {O P : Nat → Bool} {n t : Nat} (h : ∀ u, u < n → O u = P u) : nxt O n t = nxt P n t := by
  unfold nxt
  rcases Nat.lt_or_ge t n with h1 | h1
  · exact nxtF_congr _ _ fun u _ h2 => h u (by omega)
  · rw [show n - t = 0 by omega]; rfl
def codeOf (B : Nat) (q : Nat → Nat) : Nat → Nat
  | 0 => 0
  | t + 1 => codeOf B q t + q t * B ^ t
theorem codeOf_lt (B : Nat) (q : Nat → Nat) (hB : 0 < B) (hq : ∀ t, q t < B) : ∀ t, codeOf B q t < B ^ t
  | 0 => by simp [codeOf]
  | t + 1 => by
    have ih := codeOf_lt B q hB hq t
    have h2 := Nat.mul_le_mul_right (B ^ t) (Nat.le_pred_of_lt (hq t))
    simp only [codeOf, Nat.pow_succ]
    have h3 : (B - 1) * B ^ t + B ^ t = B ^ t * B := by
      rw [← Nat.succ_mul, Nat.mul_comm]; congr 1; omega
    have h4 : Nat.pred B = B - 1 := rfl
    rw [h4] at h2
    omega
theorem codeOf_dig (B : Nat) (q : Nat → Nat) (hB : 0 < B) (hq : ∀ t, q t < B) : ∀ n t, t < n → codeOf B q n / B ^ t % B = q t
  | 0, t, h => by omega
  | n + 1, t, h => by
    have hp : 0 < B ^ t := Nat.pow_pos hB
    simp only [codeOf]
    rcases Nat.eq_or_lt_of_le (Nat.le_of_lt_succ h) with e | e
    · subst e
      rw [Nat.add_mul_div_right _ _ hp, Nat.div_eq_of_lt (codeOf_lt B q hB hq t), Nat.zero_add, Nat.mod_eq_of_lt (hq t)]
    · obtain ⟨j, rfl⟩ : ∃ j, n = t + (j + 1) := ⟨n - t - 1, by omega⟩
      have h2 : q (t + (j + 1)) * B ^ (t + (j + 1)) = (q (t + (j + 1)) * B ^ j * B) * B ^ t := by
        rw [Nat.pow_add, Nat.pow_succ]; ac_rfl
      rw [h2, Nat.add_mul_div_right _ _ hp, Nat.add_mul_mod_self_right]
      exact codeOf_dig B q hB hq (t + (j + 1)) t e
theorem cnt_none {P : Nat → Bool} : ∀ m, (∀ s, s < m → P s = false) → cnt P m = 0
  | 0, _ => rfl
  | m + 1, h => by simp only [cnt]; rw [cnt_none m (fun s hs => h s (by omega)), h m (by omega)]; simp
theorem cnt_self {P : Nat → Bool} : ∀ m, cnt P m ≤ m
  | 0 => Nat.le_refl _
  | m + 1 => by have := cnt_self (P := P) m; simp only [cnt]; split <;> omega
theorem up_iff {P : Nat → Bool} : ∀ m, (∀ s, s + 1 < m → P s = true → P (s + 1) = true) → ∀ s, s < m → (P s = true ↔ m ≤ s + cnt P m)
  | 0, _, s, h => by omega
  | m + 1, hu, s, h => by
    have ih := up_iff m (fun s hs => hu s (by omega))
    simp only [cnt]
    have hup : ∀ d s, s + d = m → P s = true → P m = true := by
      intro d
      induction d with
      | zero => intro s e h; rw [← e]; exact h
      | succ d ihd => intro s e h; exact ihd (s + 1) (by omega) (hu s (by omega) h)
    rcases Bool.eq_false_or_eq_true (P m) with e | e
    · rw [e]; simp only [if_true]
      rcases Nat.eq_or_lt_of_le (Nat.le_of_lt_succ h) with e2 | e2
      · subst e2; simp [e]
      · rw [ih s e2]; omega
    · rw [e]
      have hall : ∀ s, s < m → P s = false := by
        intro s hs
        rcases Bool.eq_false_or_eq_true (P s) with e2 | e2
        · have := hup (m - s) s (by omega) e2; rw [e] at this; simp at this
        · exact e2
      rw [cnt_none m hall]
      rcases Nat.eq_or_lt_of_le (Nat.le_of_lt_succ h) with e2 | e2
      · subst e2; simp [e]
      · rw [hall s e2]; simp; omega
section
variable {need setup hold : List Int} (S : Small need setup hold)
include S
theorem Small.ech0 : ∀ s, s < setup.length → 0 ≤ ech (fn hold) s
  | 0, h => (S.ho h).1
  | s + 1, h => by
    have h1 := S.ris
    unfold risB at h1
    rw [List.all_eq_true] at h1
    have h2 := h1 s (by rw [List.mem_range, S.h]; omega)
    simp only [decide_eq_true_eq] at h2
    show 0 ≤ hold.getD (s + 1) 0 - hold.getD s 0
    omega
theorem Small.need20 : need.all (inB 0 20) = true := by
  rw [List.all_eq_true]; intro x hx; have := S.need x hx; unfold inB; simpa using this
def validC (need setup : List Int) (code : Nat) : Prop := ∀ O ∈ Osc setup.length code, cover need O
omit S in
theorem validC_iff (code : Nat) : validC need setup code ↔ ∀ s, s < setup.length → cover need (Qc setup.length code s) := by
  unfold validC Osc
  constructor
  · intro h s hs; exact h _ (List.mem_map.2 ⟨s, List.mem_range.2 hs, rfl⟩)
  · intro h O hO; obtain ⟨s, hs, rfl⟩ := List.mem_map.1 hO; exact h s (List.mem_range.1 hs)
theorem codeCost_le {code : Nat} (hv : validC need setup code) : codeCost need setup hold code ≤ ncost setup.length need.length (dsum need) (fn setup) (fn hold) (Qc setup.length code) := by
  rw [validC_iff] at hv
  have hlen : ((Osc setup.length code).map (planOf need)).length = setup.length := by simp [Osc]
  unfold codeCost planCost
  rw [hlen, hcost_ecost]
  have hsum : ∀ s t, s < setup.length → t ≤ need.length → sums need ((Osc setup.length code).map (planOf need)) s t = dsum need (nxt (Qc setup.length code s) need.length t) := by
    intro s t hs ht
    unfold sums; rw [hlen, if_pos hs]
    have e : ((Osc setup.length code).map (planOf need)).getD s [] = planOf need (Qc setup.length code s) := by
      unfold Osc; rw [List.map_map, List.getD_eq_getElem?_getD, List.getElem?_map, List.getElem?_range hs]; rfl
    rw [e, dsum_planOf need _ (hv s hs) t ht]
  have hlast : ∀ t, sums need ((Osc setup.length code).map (planOf need)) setup.length t = dsum need t := by
    intro t; unfold sums; rw [hlen, if_neg (by omega)]
  refine sumN_le _ fun s hs => Int.add_le_add (Int.mul_le_mul_of_nonneg_left ?_ (S.su hs).1) (Int.le_of_eq ?_)
  · refine Int.ofNat_le.2 (cnt_le _ fun t ht hc => ?_)
    rcases Bool.eq_false_or_eq_true (Qc setup.length code s t) with e | e
    · exact e
    · unfold chg at hc
      rw [hsum s t hs (by omega), hsum s (t + 1) hs (by omega), nxt_step _ e ht] at hc
      simp at hc
  · congr 1
    exact sumN_congr _ fun t ht => by rw [hsum s (t + 1) hs (by omega), hlast]
theorem o7_le_code {code : Nat} (hv : validC need setup code) : o7 need setup hold 0 ≤ codeCost need setup hold code := by
  obtain ⟨rows, hr⟩ := nested_rows need S.n S.need20 (Osc setup.length code) (Osc_nest hv)
  have ok := planOk_of need _ rows S.need20 hr
  have hlen : ((Osc setup.length code).map (planOf need)).length = setup.length := by simp [Osc]
  have hf := ok.feas
  rw [hlen] at hf
  obtain ⟨Q, hQ, hc⟩ := love S.D (dsum_zero need) hf S.su0 S.ech0 (setup := fn setup) (hold := fn hold)
  have h2 := out7_le (F := need.length + setup.length) S.D (dsum_zero need) S.su0 S.ho0 S.m0 (Nat.le_refl _) hQ (setup := fn setup) (hold := fn hold)
  unfold codeCost planCost; rw [hlen]
  exact Int.le_trans h2 hc
theorem code_le_o7 : ∃ code, code < (setup.length + 1) ^ need.length ∧ validC need setup code ∧ codeCost need setup hold code ≤ o7 need setup hold 0 := by
  obtain ⟨X, hX, hc⟩ := out7_feas (F := need.length + setup.length) S.D (dsum_zero need) S.su0 S.ho0 S.m0 (Nat.le_refl _) (setup := fn setup) (hold := fn hold)
  obtain ⟨Q, hQ, hc2⟩ := love S.D (dsum_zero need) hX S.su0 S.ech0 (setup := fn setup) (hold := fn hold)
  have hq : ∀ t, cnt (fun s => Q s t) setup.length < setup.length + 1 := fun t => Nat.lt_succ_of_le (cnt_self _)
  have hB : 0 < setup.length + 1 := by omega
  have same : ∀ s t, s < setup.length → t < need.length → Qc setup.length (codeOf (setup.length + 1) (fun t => cnt (fun s => Q s t) setup.length) need.length) s t = Q s t := by
    intro s t hs ht
    unfold Qc dig
    rw [codeOf_dig _ _ hB hq need.length t ht]
    have := up_iff (P := fun s => Q s t) setup.length (fun s hs h => hQ.sub s t hs h) s hs
    rcases Bool.eq_false_or_eq_true (Q s t) with e | e
    · rw [e, decide_eq_true_eq]; exact this.1 e
    · rw [e, decide_eq_false_iff_not]; intro h; have := this.2 h; rw [e] at this; simp at this
  have hv : validC need setup (codeOf (setup.length + 1) (fun t => cnt (fun s => Q s t) setup.length) need.length) := by
    rw [validC_iff]
    intro s hs
    unfold cover
    rw [nxt_congr (fun u hu => same s u hs hu)]
    exact hQ.start s hs
  refine ⟨_, codeOf_lt _ _ hB hq _, hv, ?_⟩
  refine Int.le_trans (codeCost_le S hv) (Int.le_trans (Int.le_of_eq ?_) (Int.le_trans hc2 hc))
  unfold ncost
  refine sumN_congr _ fun s hs => ?_
  rw [cnt_congr _ (fun t ht => same s t hs ht)]
  congr 2
  exact sumN_congr _ fun t _ => by rw [nxt_congr (fun u hu => same s u hs hu)]
omit S in
theorem bn_spec : ∀ total, (∀ code, code < total → validC need setup code → (bn need setup hold total).2.1 ≤ codeCost need setup hold code) ∧
    ((bn need setup hold total).2.1 = 1099511627776 ∨ ∃ code, code < total ∧ validC need setup code ∧ (bn need setup hold total).2.1 = codeCost need setup hold code)
  | 0 => ⟨fun _ h => by omega, .inl rfl⟩
  | t + 1 => by
    obtain ⟨i1, i2⟩ := bn_spec t
    rw [bn_succ]
    generalize bn need setup hold t = st at *
    unfold bnStep
    by_cases hv : ∀ O ∈ Osc setup.length t, cover need O
    · rw [if_pos hv]
      split
      · rename_i hc
        dsimp only
        refine ⟨fun code h1 h2 => ?_, .inr ⟨t, by omega, hv, rfl⟩⟩
        rcases Nat.eq_or_lt_of_le (Nat.le_of_lt_succ h1) with e | e
        · subst e; exact Int.le_refl _
        · have := i1 code e h2; omega
      · rename_i hc
        refine ⟨fun code h1 h2 => ?_, i2.elim .inl fun ⟨c, h1, h2⟩ => .inr ⟨c, by omega, h2⟩⟩
        rcases Nat.eq_or_lt_of_le (Nat.le_of_lt_succ h1) with e | e
        · subst e; omega
        · exact i1 code e h2
    · rw [if_neg hv]
      refine ⟨fun code h1 h2 => ?_, i2.elim .inl fun ⟨c, h1, h2⟩ => .inr ⟨c, by omega, h2⟩⟩
      rcases Nat.eq_or_lt_of_le (Nat.le_of_lt_succ h1) with e | e
      · subst e; exact absurd h2 hv
      · exact i1 code e h2
theorem bn_o7 : (bn need setup hold ((setup.length + 1) ^ need.length)).2.1 = o7 need setup hold 0 := by
  obtain ⟨code, h1, h2, h3⟩ := code_le_o7 S
  obtain ⟨b1, b2⟩ := bn_spec (need := need) (setup := setup) (hold := hold) ((setup.length + 1) ^ need.length)
  have h4 := b1 code h1 h2
  have h5 := o7_bound S need.length 0 (by omega)
  rcases b2 with e | ⟨code', _, h7, h8⟩
  · omega
  · have := o7_le_code S h7; omega
end
theorem sameCost_ev (need setup hold : List Int) (h1 : need.length < 1000000000) (h2 : setup.length < 1000000000) (h3 : hold.length < 1000000000) :
    Ev (fun k => impl_BestChainCost.f k need setup hold) (if chainB need setup hold = true then (o7 need setup hold 0, true) else (0, false)) := by
  refine (BestChainCost_ev need setup hold h1 h2 h3).to ?_
  by_cases hg : chainB need setup hold = true
  · rw [if_pos hg, if_pos hg, bn_o7 (small_of hg)]
  · rw [if_neg hg, if_neg hg]
end Go.Proofs.Ythlmmcmpllgflaa.P
namespace Go.Proofs.Ythlmmcmpllgflaa.P
open Go.RowKit Go.Proofs.YthlmmcmpllgflaaW.PrintWords Go.Proofs.YthlmmcmpllgflaaW.PrintLast Go.Proofs.YthlmmcmpllgflaaW.PrintMore
attribute [local go_sem] max2_int min2_int max_two min_two max_three min_three max_four min_four
set_option linter.unusedVariables false
set_option linter.unusedSimpArgs false
def laws_FnExactBestChainCost.j0 : Nat → Bool → List Int → List Int → List Int → List Int → List Int → List Int → Option (Bool)
 | 0, _, _, _, _, _, _, _ => none
 | k + 1, x34, x1665000, x1665001, x1665002, x1687000, x1687001, x1687002 => if x34 = true then (some false) else ((laws_toChain.f k x1665000 x1665001 x1665002).bind fun bt1689 => ((laws_eqChain.f k x1687000 x1687001 x1687002 bt1689.1 bt1689.2.1 bt1689.2.2).bind fun t1698 => (if t1698 = true then (some true) else (some false))))
def laws_FnExactBestChainCost.f (k : Nat) (l0_0 : List Int) (l0_1 : List Int) (l0_2 : List Int) : Option (Bool) := (laws_szChain.f l0_0 l0_1 l0_2 1048576).bind fun t1665 => (if t1665 < 0 then (some true) else ((laws_toChain.f k l0_0 l0_1 l0_2).bind fun bt1666 => ((spec_BestChainCost.f k bt1666.1 bt1666.2.1 bt1666.2.2).bind fun bt1675 => ((laws_toChain.f k l0_0 l0_1 l0_2).bind fun bt1677 => ((impl_BestChainCost.f k bt1677.1 bt1677.2.1 bt1677.2.2).bind fun bt1687 => (if bt1687.1 = bt1675.1 then (laws_FnExactBestChainCost.j0 k (bt1687.2 != bt1675.2) l0_0 l0_1 l0_2 bt1677.1 bt1677.2.1 bt1677.2.2) else (laws_FnExactBestChainCost.j0 k true l0_0 l0_1 l0_2 bt1677.1 bt1677.2.1 bt1677.2.2)))))))
set_option maxHeartbeats 8000000 in
set_option maxRecDepth 100000 in
theorem laws_FnExactBestChainCost.calls (k : Nat) (A0_0 : Option Addr) (c0_0 : Nat) (l0_0 : List Int) (A0_1 : Option Addr) (c0_1 : Nat) (l0_1 : List Int) (A0_2 : Option Addr) (c0_2 : Nat) (l0_2 : List Int) (r : Bool) (w : World) (hr0_0 : Kd.C (Kd.int .i64) w A0_0 l0_0.length l0_0) (hc0_0 : l0_0.length ≤ c0_0) (hr0_1 : Kd.C (Kd.int .i64) w A0_1 l0_1.length l0_1) (hc0_1 : l0_1.length ≤ c0_1) (hr0_2 : Kd.C (Kd.int .i64) w A0_2 l0_2.length l0_2) (hc0_2 : l0_2.length ≤ c0_2) (h : laws_FnExactBestChainCost.f k l0_0 l0_1 l0_2 = some r) :
 Calls Try.prog 4 #[.agg #[.slice A0_0 l0_0.length c0_0, .slice A0_1 l0_1.length c0_1, .slice A0_2 l0_2.length c0_2]] w fun e w' => e = .returned (.bool r) ∧ Below w.heap.size w w' := by
 have hu39 := Try.underlying39
 have hu26 := Try.underlying26
 have HR0_0 := Aside0.mk hr0_0
 have HC0_0 := Aside0.mk hc0_0
 clear hr0_0 hc0_0
 have HR0_1 := Aside0.mk hr0_1
 have HC0_1 := Aside0.mk hc0_1
 clear hr0_1 hc0_1
 have HR0_2 := Aside0.mk hr0_2
 have HC0_2 := Aside0.mk hc0_2
 clear hr0_2 hc0_2
 have HB := Aside0.mk (Below.refl w.heap.size w)
 have H : ((laws_szChain.f l0_0 l0_1 l0_2 1048576).bind fun t1665 => (if t1665 < 0 then (some true) else ((laws_toChain.f k l0_0 l0_1 l0_2).bind fun bt1666 => ((spec_BestChainCost.f k bt1666.1 bt1666.2.1 bt1666.2.2).bind fun bt1675 => ((laws_toChain.f k l0_0 l0_1 l0_2).bind fun bt1677 => ((impl_BestChainCost.f k bt1677.1 bt1677.2.1 bt1677.2.2).bind fun bt1687 => (if bt1687.1 = bt1675.1 then (laws_FnExactBestChainCost.j0 k (bt1687.2 != bt1675.2) l0_0 l0_1 l0_2 bt1677.1 bt1677.2.1 bt1677.2.2) else (laws_FnExactBestChainCost.j0 k true l0_0 l0_1 l0_2 bt1677.1 bt1677.2.1 bt1677.2.2)))))))) = some r := h
 clear h
 replace H := Option.bind_eq_some_iff.mp H
 obtain ⟨t1665, A20, H⟩ := H
 replace H : (if t1665 < 0 then (some true) else ((laws_toChain.f k l0_0 l0_1 l0_2).bind fun bt1666 => ((spec_BestChainCost.f k bt1666.1 bt1666.2.1 bt1666.2.2).bind fun bt1675 => ((laws_toChain.f k l0_0 l0_1 l0_2).bind fun bt1677 => ((impl_BestChainCost.f k bt1677.1 bt1677.2.1 bt1677.2.2).bind fun bt1687 => (if bt1687.1 = bt1675.1 then (laws_FnExactBestChainCost.j0 k (bt1687.2 != bt1675.2) l0_0 l0_1 l0_2 bt1677.1 bt1677.2.1 bt1677.2.2) else (laws_FnExactBestChainCost.j0 k true l0_0 l0_1 l0_2 bt1677.1 bt1677.2.1 bt1677.2.2))))))) = some r := H
 have A2 := Aside0.mk A20
 clear A20
 by_cases c3 : t1665 < 0
 · rw [if_pos c3] at H
   have c3b0 : decide (t1665 < 0) = true := decide_eq_true c3
   clear c3
   obtain rfl := Option.some.inj H
   go_enter Try.func4, Try.ntmps4
   go_wp2_with (first | ((with_reducible refine gate_dst (N := 1) rfl ?_); refine box_event ?hg (N := 1) ?hd (cs := #[.slice A0_0 l0_0.length c0_0, .slice A0_1 l0_1.length c0_1, .slice A0_2 l0_2.length c0_2]) (t := 39) ?hr ?_; (case hd => rfl); (case hg => rfl); (case hr => first | (go_simp; done) | (go_simp; rfl)); intro gb1664 hg w4 hbox hb; have n0_ := Aside0.mk (below_step (by repeat (first | (with_reducible first | exact HB.out | apply below_alloc | apply pw_below_drewN | apply below_drew1) | exact HB.out)) hb); have n1_ := Aside0.mk (hbox); have n2_ := Aside0.mk ((by rw [hg]; exact (below_size (by repeat (first | (with_reducible first | exact HB.out | apply below_alloc | apply pw_below_drewN | apply below_drew1) | exact HB.out))) : w.heap.size ≤ gb1664)); have n3_ := Aside0.mk ((by rw [hg]; exact (below_size (by repeat (first | (with_reducible first | exact HB.out | apply below_alloc | apply pw_below_drewN | apply below_drew1) | exact HB.out))) : w.heap.size ≤ gb1664)); clear HB; have HB := n0_; have BK1664 := n1_; have GW1664 := n2_; have GE1664 := n3_; clear n0_ n1_ n2_ n3_; clear hb hbox hg; have hcz5_0 : w4.cell? ⟨gb1664, 0, none⟩ = some (.slice A0_0 l0_0.length c0_0) := (blk_cell BK1664.out 0).trans rfl; have hcz5_1 : w4.cell? ⟨gb1664, 1, none⟩ = some (.slice A0_1 l0_1.length c0_1) := (blk_cell BK1664.out 1).trans rfl; have hcz5_2 : w4.cell? ⟨gb1664, 2, none⟩ = some (.slice A0_2 l0_2.length c0_2) := (blk_cell BK1664.out 2).trans rfl; have hfz5_0 := blk_frozen BK1664.out 0; have hfz5_1 := blk_frozen BK1664.out 1; have hfz5_2 := blk_frozen BK1664.out 2) | ((with_reducible refine gate_callee (f := 22) rfl ?_); refine goesL_ (some 11) rfl rfl Try.func22 (by kernel_rfl) rfl #[.agg #[.slice A0_0 l0_0.length c0_0, .slice A0_1 l0_1.length c0_1, .slice A0_2 l0_2.length c0_2], .int .i64 1048576] rfl (by (try simp only [List.map_toArray, List.map_cons, List.map_nil]); first | done | rfl | (simp only [List.length_drop, List.length_take]; rfl)) ?_; (with_reducible refine (laws_szChain.calls _ _ l0_0 _ _ l0_1 _ _ l0_2 1048576 t1665 _ ?side1 ?side2 ?side3 ?side4 ?side5 ?side6 A2.out).mono ?_); (case side1 => repeat (first | exact (Kd.C_below HR0_0.out HB.out) | (with_reducible refine Kd.C_alloc ?_ _) | (with_reducible refine Kd.C_drewN ?_ _) | (with_reducible refine Kd.C_drew ?_))); (case side2 => exact HC0_0.out); (case side3 => repeat (first | exact (Kd.C_below HR0_1.out HB.out) | (with_reducible refine Kd.C_alloc ?_ _) | (with_reducible refine Kd.C_drewN ?_ _) | (with_reducible refine Kd.C_drew ?_))); (case side4 => exact HC0_1.out); (case side5 => repeat (first | exact (Kd.C_below HR0_2.out HB.out) | (with_reducible refine Kd.C_alloc ?_ _) | (with_reducible refine Kd.C_drewN ?_ _) | (with_reducible refine Kd.C_drew ?_))); (case side6 => exact HC0_2.out); rintro e w6 ⟨rfl, hb⟩; refine ⟨_, rfl, ?_⟩; have n0_ := Aside0.mk (blk_below (g := gb1664) (o := .cells #[.slice A0_0 l0_0.length c0_0, .slice A0_1 l0_1.length c0_1, .slice A0_2 l0_2.length c0_2] 39 (0, 0)) (by (with_reducible repeat (first | refine blk_drewN ?_ _ | refine blk_drew ?_ | refine blk_alloc ?_ _)); exact BK1664.out) hb); have n1_ := Aside0.mk (below_step (by repeat (first | (with_reducible first | exact HB.out | apply below_alloc | apply pw_below_drewN | apply below_drew1 | refine below_set ?_ GE1664.out) | exact HB.out)) hb); clear BK1664; clear HB; have BK1664 := n0_; have HB := n1_; clear n0_ n1_; (try clear hb); (try clear hb2); (try clear hk); (try clear hi)))
   go_ret
   exact ⟨by first | rfl | (simp [errW_none, errW_some] <;> rfl) | (simp [*, errW_none, errW_some] <;> rfl), by repeat (first | (with_reducible first | exact HB.out | apply below_alloc | apply pw_below_drewN | apply below_drew1 | refine below_set ?_ GE1664.out) | exact HB.out)⟩
 · rw [if_neg c3] at H
   have c3b0 : decide (t1665 < 0) = false := decide_eq_false c3
   clear c3
   replace H := Option.bind_eq_some_iff.mp H
   obtain ⟨⟨t1666, t1669, t1672⟩, A70, H⟩ := H
   replace H : ((spec_BestChainCost.f k t1666 t1669 t1672).bind fun bt1675 => ((laws_toChain.f k l0_0 l0_1 l0_2).bind fun bt1677 => ((impl_BestChainCost.f k bt1677.1 bt1677.2.1 bt1677.2.2).bind fun bt1687 => (if bt1687.1 = bt1675.1 then (laws_FnExactBestChainCost.j0 k (bt1687.2 != bt1675.2) l0_0 l0_1 l0_2 bt1677.1 bt1677.2.1 bt1677.2.2) else (laws_FnExactBestChainCost.j0 k true l0_0 l0_1 l0_2 bt1677.1 bt1677.2.1 bt1677.2.2))))) = some r := H
   have A7 := Aside0.mk A70
   clear A70
   replace H := Option.bind_eq_some_iff.mp H
   obtain ⟨⟨t1675, t1676⟩, A80, H⟩ := H
   replace H : ((laws_toChain.f k l0_0 l0_1 l0_2).bind fun bt1677 => ((impl_BestChainCost.f k bt1677.1 bt1677.2.1 bt1677.2.2).bind fun bt1687 => (if bt1687.1 = t1675 then (laws_FnExactBestChainCost.j0 k (bt1687.2 != t1676) l0_0 l0_1 l0_2 bt1677.1 bt1677.2.1 bt1677.2.2) else (laws_FnExactBestChainCost.j0 k true l0_0 l0_1 l0_2 bt1677.1 bt1677.2.1 bt1677.2.2)))) = some r := H
   have A8 := Aside0.mk A80
   clear A80
   replace H := Option.bind_eq_some_iff.mp H
   obtain ⟨⟨t1677, t1680, t1683⟩, A90, H⟩ := H
   replace H : ((impl_BestChainCost.f k t1677 t1680 t1683).bind fun bt1687 => (if bt1687.1 = t1675 then (laws_FnExactBestChainCost.j0 k (bt1687.2 != t1676) l0_0 l0_1 l0_2 t1677 t1680 t1683) else (laws_FnExactBestChainCost.j0 k true l0_0 l0_1 l0_2 t1677 t1680 t1683))) = some r := H
   have A9 := Aside0.mk A90
   clear A90
   replace H := Option.bind_eq_some_iff.mp H
   obtain ⟨⟨t1687, t1688⟩, A100, H⟩ := H
   replace H : (if t1687 = t1675 then (laws_FnExactBestChainCost.j0 k (t1688 != t1676) l0_0 l0_1 l0_2 t1677 t1680 t1683) else (laws_FnExactBestChainCost.j0 k true l0_0 l0_1 l0_2 t1677 t1680 t1683)) = some r := H
   have A10 := Aside0.mk A100
   clear A100
   have HC11 := Aside0.mk H
   clear H
   go_enter Try.func4, Try.ntmps4
   go_upto_region 8 with (first | ((with_reducible refine gate_dst (N := 1) rfl ?_); refine box_event ?hg (N := 1) ?hd (cs := #[.slice A0_0 l0_0.length c0_0, .slice A0_1 l0_1.length c0_1, .slice A0_2 l0_2.length c0_2]) (t := 39) ?hr ?_; (case hd => rfl); (case hg => rfl); (case hr => first | (go_simp; done) | (go_simp; rfl)); intro gb1664 hg w12 hbox hb; have n0_ := Aside0.mk (below_step (by repeat (first | (with_reducible first | exact HB.out | apply below_alloc | apply pw_below_drewN | apply below_drew1) | exact HB.out)) hb); have n1_ := Aside0.mk (hbox); have n2_ := Aside0.mk ((by rw [hg]; exact (below_size (by repeat (first | (with_reducible first | exact HB.out | apply below_alloc | apply pw_below_drewN | apply below_drew1) | exact HB.out))) : w.heap.size ≤ gb1664)); have n3_ := Aside0.mk ((by rw [hg]; exact (below_size (by repeat (first | (with_reducible first | exact HB.out | apply below_alloc | apply pw_below_drewN | apply below_drew1) | exact HB.out))) : w.heap.size ≤ gb1664)); clear HB; have HB := n0_; have BK1664 := n1_; have GW1664 := n2_; have GE1664 := n3_; clear n0_ n1_ n2_ n3_; clear hb hbox hg; have hcz13_0 : w12.cell? ⟨gb1664, 0, none⟩ = some (.slice A0_0 l0_0.length c0_0) := (blk_cell BK1664.out 0).trans rfl; have hcz13_1 : w12.cell? ⟨gb1664, 1, none⟩ = some (.slice A0_1 l0_1.length c0_1) := (blk_cell BK1664.out 1).trans rfl; have hcz13_2 : w12.cell? ⟨gb1664, 2, none⟩ = some (.slice A0_2 l0_2.length c0_2) := (blk_cell BK1664.out 2).trans rfl; have hfz13_0 := blk_frozen BK1664.out 0; have hfz13_1 := blk_frozen BK1664.out 1; have hfz13_2 := blk_frozen BK1664.out 2) | ((with_reducible refine gate_callee (f := 22) rfl ?_); refine goesL_ (some 11) rfl rfl Try.func22 (by kernel_rfl) rfl #[.agg #[.slice A0_0 l0_0.length c0_0, .slice A0_1 l0_1.length c0_1, .slice A0_2 l0_2.length c0_2], .int .i64 1048576] rfl (by (try simp only [List.map_toArray, List.map_cons, List.map_nil]); first | done | rfl | (simp only [List.length_drop, List.length_take]; rfl)) ?_; (with_reducible refine (laws_szChain.calls _ _ l0_0 _ _ l0_1 _ _ l0_2 1048576 t1665 _ ?side1 ?side2 ?side3 ?side4 ?side5 ?side6 A2.out).mono ?_); (case side1 => repeat (first | exact (Kd.C_below HR0_0.out HB.out) | (with_reducible refine Kd.C_alloc ?_ _) | (with_reducible refine Kd.C_drewN ?_ _) | (with_reducible refine Kd.C_drew ?_))); (case side2 => exact HC0_0.out); (case side3 => repeat (first | exact (Kd.C_below HR0_1.out HB.out) | (with_reducible refine Kd.C_alloc ?_ _) | (with_reducible refine Kd.C_drewN ?_ _) | (with_reducible refine Kd.C_drew ?_))); (case side4 => exact HC0_1.out); (case side5 => repeat (first | exact (Kd.C_below HR0_2.out HB.out) | (with_reducible refine Kd.C_alloc ?_ _) | (with_reducible refine Kd.C_drewN ?_ _) | (with_reducible refine Kd.C_drew ?_))); (case side6 => exact HC0_2.out); rintro e w14 ⟨rfl, hb⟩; refine ⟨_, rfl, ?_⟩; have n0_ := Aside0.mk (blk_below (g := gb1664) (o := .cells #[.slice A0_0 l0_0.length c0_0, .slice A0_1 l0_1.length c0_1, .slice A0_2 l0_2.length c0_2] 39 (0, 0)) (by (with_reducible repeat (first | refine blk_drewN ?_ _ | refine blk_drew ?_ | refine blk_alloc ?_ _)); exact BK1664.out) hb); have n1_ := Aside0.mk (below_step (by repeat (first | (with_reducible first | exact HB.out | apply below_alloc | apply pw_below_drewN | apply below_drew1 | refine below_set ?_ GE1664.out) | exact HB.out)) hb); clear BK1664; clear HB; have BK1664 := n0_; have HB := n1_; clear n0_ n1_; (try clear hb); (try clear hb2); (try clear hk); (try clear hi); have hcz15_0 : w14.cell? ⟨gb1664, 0, none⟩ = some (.slice A0_0 l0_0.length c0_0) := (blk_cell BK1664.out 0).trans rfl; have hcz15_1 : w14.cell? ⟨gb1664, 1, none⟩ = some (.slice A0_1 l0_1.length c0_1) := (blk_cell BK1664.out 1).trans rfl; have hcz15_2 : w14.cell? ⟨gb1664, 2, none⟩ = some (.slice A0_2 l0_2.length c0_2) := (blk_cell BK1664.out 2).trans rfl; have hfz15_0 := blk_frozen BK1664.out 0; have hfz15_1 := blk_frozen BK1664.out 1; have hfz15_2 := blk_frozen BK1664.out 2) | ((with_reducible refine gate_callee (f := 23) rfl ?_); refine goesL_ (some 16) rfl rfl Try.func23 (by kernel_rfl) rfl #[.agg #[.slice A0_0 l0_0.length c0_0, .slice A0_1 l0_1.length c0_1, .slice A0_2 l0_2.length c0_2]] rfl (by (try simp only [List.map_toArray, List.map_cons, List.map_nil]); first | done | rfl | (simp only [List.length_drop, List.length_take]; rfl)) ?_; (with_reducible refine (laws_toChain.calls k _ _ l0_0 _ _ l0_1 _ _ l0_2 t1666 t1669 t1672 _ ?side1 ?side2 ?side3 ?side4 ?side5 ?side6 A7.out).mono ?_); (case side1 => repeat (first | exact (Kd.C_below HR0_0.out HB.out) | (with_reducible refine Kd.C_alloc ?_ _) | (with_reducible refine Kd.C_drewN ?_ _) | (with_reducible refine Kd.C_drew ?_))); (case side2 => exact HC0_0.out); (case side3 => repeat (first | exact (Kd.C_below HR0_1.out HB.out) | (with_reducible refine Kd.C_alloc ?_ _) | (with_reducible refine Kd.C_drewN ?_ _) | (with_reducible refine Kd.C_drew ?_))); (case side4 => exact HC0_1.out); (case side5 => repeat (first | exact (Kd.C_below HR0_2.out HB.out) | (with_reducible refine Kd.C_alloc ?_ _) | (with_reducible refine Kd.C_drewN ?_ _) | (with_reducible refine Kd.C_drew ?_))); (case side6 => exact HC0_2.out); rintro e w16 ⟨v1667, v1670, v1673, rfl, ho0, ho1, ho2, hb⟩; refine ⟨_, rfl, ?_⟩; have n0_ := Aside0.mk (Kd.R_lower ho0 (below_size (by repeat (first | (with_reducible first | exact HB.out | apply below_alloc | apply pw_below_drewN | apply below_drew1 | refine below_set ?_ GE1664.out) | exact HB.out)))); have n1_ := Aside0.mk (Kd.R_lower ho1 (below_size (by repeat (first | (with_reducible first | exact HB.out | apply below_alloc | apply pw_below_drewN | apply below_drew1 | refine below_set ?_ GE1664.out) | exact HB.out)))); have n2_ := Aside0.mk (Kd.R_lower ho2 (below_size (by repeat (first | (with_reducible first | exact HB.out | apply below_alloc | apply pw_below_drewN | apply below_drew1 | refine below_set ?_ GE1664.out) | exact HB.out)))); have n3_ := Aside0.mk (blk_below (g := gb1664) (o := .cells #[.slice A0_0 l0_0.length c0_0, .slice A0_1 l0_1.length c0_1, .slice A0_2 l0_2.length c0_2] 39 (0, 0)) (by (with_reducible repeat (first | refine blk_drewN ?_ _ | refine blk_drew ?_ | refine blk_alloc ?_ _)); exact BK1664.out) hb); have n4_ := Aside0.mk (below_step (by repeat (first | (with_reducible first | exact HB.out | apply below_alloc | apply pw_below_drewN | apply below_drew1 | refine below_set ?_ GE1664.out) | exact HB.out)) hb); clear BK1664; clear HB; have HO1668 := n0_; have HO1671 := n1_; have HO1674 := n2_; have BK1664 := n3_; have HB := n4_; clear n0_ n1_ n2_ n3_ n4_; (try clear hb); (try clear hb2); (try clear hk); (try clear hi); (try clear ho0); (try clear ho1); (try clear ho2); obtain ⟨Ao17, co17, eo17⟩ := Kd.R_slice HO1668.out; subst eo17; obtain ⟨Ao18, co18, eo18⟩ := Kd.R_slice HO1671.out; subst eo18; obtain ⟨Ao19, co19, eo19⟩ := Kd.R_slice HO1674.out; subst eo19) | ((with_reducible refine gate_callee (f := 16) rfl ?_); refine goesL_ (some 17) rfl rfl Try.func16 (by kernel_rfl) rfl #[.agg #[.slice Ao17 t1666.length co17, .slice Ao18 t1669.length co18, .slice Ao19 t1672.length co19]] rfl (by (try simp only [List.map_toArray, List.map_cons, List.map_nil]); first | done | rfl | (simp only [List.length_drop, List.length_take]; rfl)) ?_; (with_reducible refine (spec_BestChainCost.calls k _ _ t1666 _ _ t1669 _ _ t1672 t1675 t1676 _ ?side1 ?side2 ?side3 ?side4 ?side5 ?side6 A8.out).mono ?_); (case side1 => repeat (first | exact (Kd.R_reads' HO1668.out).2.2 | (with_reducible refine Kd.C_alloc ?_ _) | (with_reducible refine Kd.C_drewN ?_ _) | (with_reducible refine Kd.C_drew ?_))); (case side2 => exact (Kd.R_reads' HO1668.out).2.1); (case side3 => repeat (first | exact (Kd.R_reads' HO1671.out).2.2 | (with_reducible refine Kd.C_alloc ?_ _) | (with_reducible refine Kd.C_drewN ?_ _) | (with_reducible refine Kd.C_drew ?_))); (case side4 => exact (Kd.R_reads' HO1671.out).2.1); (case side5 => repeat (first | exact (Kd.R_reads' HO1674.out).2.2 | (with_reducible refine Kd.C_alloc ?_ _) | (with_reducible refine Kd.C_drewN ?_ _) | (with_reducible refine Kd.C_drew ?_))); (case side6 => exact (Kd.R_reads' HO1674.out).2.1); rintro e w20 ⟨rfl, hb⟩; refine ⟨_, rfl, ?_⟩; have n0_ := Aside0.mk (Kd.R_below (by (with_reducible repeat (first | apply Kd.R_alloc | apply Kd.R_drewN | apply Kd.R_drew)); exact HO1668.out) hb); have n1_ := Aside0.mk (Kd.R_below (by (with_reducible repeat (first | apply Kd.R_alloc | apply Kd.R_drewN | apply Kd.R_drew)); exact HO1671.out) hb); have n2_ := Aside0.mk (Kd.R_below (by (with_reducible repeat (first | apply Kd.R_alloc | apply Kd.R_drewN | apply Kd.R_drew)); exact HO1674.out) hb); have n3_ := Aside0.mk (blk_below (g := gb1664) (o := .cells #[.slice A0_0 l0_0.length c0_0, .slice A0_1 l0_1.length c0_1, .slice A0_2 l0_2.length c0_2] 39 (0, 0)) (by (with_reducible repeat (first | refine blk_drewN ?_ _ | refine blk_drew ?_ | refine blk_alloc ?_ _)); exact BK1664.out) hb); have n4_ := Aside0.mk (below_step (by repeat (first | (with_reducible first | exact HB.out | apply below_alloc | apply pw_below_drewN | apply below_drew1 | refine below_set ?_ GE1664.out) | exact HB.out)) hb); clear HO1668; clear HO1671; clear HO1674; clear BK1664; clear HB; have HO1668 := n0_; have HO1671 := n1_; have HO1674 := n2_; have BK1664 := n3_; have HB := n4_; clear n0_ n1_ n2_ n3_ n4_; (try clear hb); (try clear hb2); (try clear hk); (try clear hi); have hcz21_0 : w20.cell? ⟨gb1664, 0, none⟩ = some (.slice A0_0 l0_0.length c0_0) := (blk_cell BK1664.out 0).trans rfl; have hcz21_1 : w20.cell? ⟨gb1664, 1, none⟩ = some (.slice A0_1 l0_1.length c0_1) := (blk_cell BK1664.out 1).trans rfl; have hcz21_2 : w20.cell? ⟨gb1664, 2, none⟩ = some (.slice A0_2 l0_2.length c0_2) := (blk_cell BK1664.out 2).trans rfl; have hfz21_0 := blk_frozen BK1664.out 0; have hfz21_1 := blk_frozen BK1664.out 1; have hfz21_2 := blk_frozen BK1664.out 2) | ((with_reducible refine gate_callee (f := 23) rfl ?_); refine goesL_ (some 21) rfl rfl Try.func23 (by kernel_rfl) rfl #[.agg #[.slice A0_0 l0_0.length c0_0, .slice A0_1 l0_1.length c0_1, .slice A0_2 l0_2.length c0_2]] rfl (by (try simp only [List.map_toArray, List.map_cons, List.map_nil]); first | done | rfl | (simp only [List.length_drop, List.length_take]; rfl)) ?_; (with_reducible refine (laws_toChain.calls k _ _ l0_0 _ _ l0_1 _ _ l0_2 t1677 t1680 t1683 _ ?side1 ?side2 ?side3 ?side4 ?side5 ?side6 A9.out).mono ?_); (case side1 => repeat (first | exact (Kd.C_below HR0_0.out HB.out) | (with_reducible refine Kd.C_alloc ?_ _) | (with_reducible refine Kd.C_drewN ?_ _) | (with_reducible refine Kd.C_drew ?_))); (case side2 => exact HC0_0.out); (case side3 => repeat (first | exact (Kd.C_below HR0_1.out HB.out) | (with_reducible refine Kd.C_alloc ?_ _) | (with_reducible refine Kd.C_drewN ?_ _) | (with_reducible refine Kd.C_drew ?_))); (case side4 => exact HC0_1.out); (case side5 => repeat (first | exact (Kd.C_below HR0_2.out HB.out) | (with_reducible refine Kd.C_alloc ?_ _) | (with_reducible refine Kd.C_drewN ?_ _) | (with_reducible refine Kd.C_drew ?_))); (case side6 => exact HC0_2.out); rintro e w22 ⟨v1678, v1681, v1684, rfl, ho0, ho1, ho2, hb⟩; refine ⟨_, rfl, ?_⟩; have n0_ := Aside0.mk (Kd.R_mono (Kd.R_told (Kd.R_told (Kd.R_told (Kd.R_old (by (with_reducible repeat (first | apply Kd.R_alloc | apply Kd.R_drewN | apply Kd.R_drew)); exact HO1668.out) hb) (Kd.R_base ho0)) (Kd.R_base ho1)) (Kd.R_base ho2)) (fun _ h_ => h_.1)); have n1_ := Aside0.mk (Kd.R_mono (Kd.R_told (Kd.R_told (Kd.R_told (Kd.R_old (by (with_reducible repeat (first | apply Kd.R_alloc | apply Kd.R_drewN | apply Kd.R_drew)); exact HO1671.out) hb) (Kd.R_base ho0)) (Kd.R_base ho1)) (Kd.R_base ho2)) (fun _ h_ => h_.1)); have n2_ := Aside0.mk (Kd.R_mono (Kd.R_told (Kd.R_told (Kd.R_told (Kd.R_old (by (with_reducible repeat (first | apply Kd.R_alloc | apply Kd.R_drewN | apply Kd.R_drew)); exact HO1674.out) hb) (Kd.R_base ho0)) (Kd.R_base ho1)) (Kd.R_base ho2)) (fun _ h_ => h_.1)); have n3_ := Aside0.mk (Kd.R_lower (Kd.R_new' (Kd.R_new' (Kd.R_new' ho0 (Kd.R_lt (by (with_reducible repeat (first | apply Kd.R_alloc | apply Kd.R_drewN | apply Kd.R_drew)); exact HO1668.out))) (Kd.R_lt (by (with_reducible repeat (first | apply Kd.R_alloc | apply Kd.R_drewN | apply Kd.R_drew)); exact HO1671.out))) (Kd.R_lt (by (with_reducible repeat (first | apply Kd.R_alloc | apply Kd.R_drewN | apply Kd.R_drew)); exact HO1674.out))) (below_size (by repeat (first | (with_reducible first | exact HB.out | apply below_alloc | apply pw_below_drewN | apply below_drew1 | refine below_set ?_ GE1664.out) | exact HB.out)))); have n4_ := Aside0.mk (Kd.R_lower (Kd.R_new' (Kd.R_new' (Kd.R_new' ho1 (Kd.R_lt (by (with_reducible repeat (first | apply Kd.R_alloc | apply Kd.R_drewN | apply Kd.R_drew)); exact HO1668.out))) (Kd.R_lt (by (with_reducible repeat (first | apply Kd.R_alloc | apply Kd.R_drewN | apply Kd.R_drew)); exact HO1671.out))) (Kd.R_lt (by (with_reducible repeat (first | apply Kd.R_alloc | apply Kd.R_drewN | apply Kd.R_drew)); exact HO1674.out))) (below_size (by repeat (first | (with_reducible first | exact HB.out | apply below_alloc | apply pw_below_drewN | apply below_drew1 | refine below_set ?_ GE1664.out) | exact HB.out)))); have n5_ := Aside0.mk (Kd.R_lower (Kd.R_new' (Kd.R_new' (Kd.R_new' ho2 (Kd.R_lt (by (with_reducible repeat (first | apply Kd.R_alloc | apply Kd.R_drewN | apply Kd.R_drew)); exact HO1668.out))) (Kd.R_lt (by (with_reducible repeat (first | apply Kd.R_alloc | apply Kd.R_drewN | apply Kd.R_drew)); exact HO1671.out))) (Kd.R_lt (by (with_reducible repeat (first | apply Kd.R_alloc | apply Kd.R_drewN | apply Kd.R_drew)); exact HO1674.out))) (below_size (by repeat (first | (with_reducible first | exact HB.out | apply below_alloc | apply pw_below_drewN | apply below_drew1 | refine below_set ?_ GE1664.out) | exact HB.out)))); have n6_ := Aside0.mk (blk_below (g := gb1664) (o := .cells #[.slice A0_0 l0_0.length c0_0, .slice A0_1 l0_1.length c0_1, .slice A0_2 l0_2.length c0_2] 39 (0, 0)) (by (with_reducible repeat (first | refine blk_drewN ?_ _ | refine blk_drew ?_ | refine blk_alloc ?_ _)); exact BK1664.out) hb); have n7_ := Aside0.mk (below_step (by repeat (first | (with_reducible first | exact HB.out | apply below_alloc | apply pw_below_drewN | apply below_drew1 | refine below_set ?_ GE1664.out) | exact HB.out)) hb); clear HO1668; clear HO1671; clear HO1674; clear BK1664; clear HB; have HO1668 := n0_; have HO1671 := n1_; have HO1674 := n2_; have HO1679 := n3_; have HO1682 := n4_; have HO1685 := n5_; have BK1664 := n6_; have HB := n7_; clear n0_ n1_ n2_ n3_ n4_ n5_ n6_ n7_; (try clear hb); (try clear hb2); (try clear hk); (try clear hi); (try clear ho0); (try clear ho1); (try clear ho2)) | ((with_reducible refine gate_dst (N := 6) rfl ?_); refine box_event ?hg (N := 6) ?hd (cs := #[.slice none 0 0, .slice none 0 0, .slice none 0 0]) (t := 26) ?hr ?_; (case hd => rfl); (case hg => rfl); (case hr => first | (go_simp; done) | (go_simp; rfl)); intro gb1686 hg w23 hbox hb; have n0_ := Aside0.mk (Kd.R_below (by (with_reducible repeat (first | apply Kd.R_alloc | apply Kd.R_drewN | apply Kd.R_drew)); exact HO1668.out) hb); have n1_ := Aside0.mk (Kd.R_below (by (with_reducible repeat (first | apply Kd.R_alloc | apply Kd.R_drewN | apply Kd.R_drew)); exact HO1671.out) hb); have n2_ := Aside0.mk (Kd.R_below (by (with_reducible repeat (first | apply Kd.R_alloc | apply Kd.R_drewN | apply Kd.R_drew)); exact HO1674.out) hb); have n3_ := Aside0.mk (Kd.R_below (by (with_reducible repeat (first | apply Kd.R_alloc | apply Kd.R_drewN | apply Kd.R_drew)); exact HO1679.out) hb); have n4_ := Aside0.mk (Kd.R_below (by (with_reducible repeat (first | apply Kd.R_alloc | apply Kd.R_drewN | apply Kd.R_drew)); exact HO1682.out) hb); have n5_ := Aside0.mk (Kd.R_below (by (with_reducible repeat (first | apply Kd.R_alloc | apply Kd.R_drewN | apply Kd.R_drew)); exact HO1685.out) hb); have n6_ := Aside0.mk (blk_below (g := gb1664) (o := .cells #[.slice A0_0 l0_0.length c0_0, .slice A0_1 l0_1.length c0_1, .slice A0_2 l0_2.length c0_2] 39 (0, 0)) (by (with_reducible repeat (first | refine blk_drewN ?_ _ | refine blk_drew ?_ | refine blk_alloc ?_ _)); exact BK1664.out) hb); have n7_ := Aside0.mk (below_step (by repeat (first | (with_reducible first | exact HB.out | apply below_alloc | apply pw_below_drewN | apply below_drew1 | refine below_set ?_ GE1664.out) | exact HB.out)) hb); have n8_ := Aside0.mk (hbox); have n9_ := Aside0.mk ((by rw [hg]; exact (below_size (by repeat (first | (with_reducible first | exact HB.out | apply below_alloc | apply pw_below_drewN | apply below_drew1 | refine below_set ?_ GE1664.out) | exact HB.out))) : w.heap.size ≤ gb1686)); have n10_ := Aside0.mk ((by rw [hg]; exact (below_size (by repeat (first | (with_reducible first | exact HB.out | apply below_alloc | apply pw_below_drewN | apply below_drew1 | refine below_set ?_ GE1664.out) | exact HB.out))) : w.heap.size ≤ gb1686)); have n11_ := Aside0.mk ((by rw [hg]; exact Nat.ne_of_lt (blk_lt (g := gb1664) (o := .cells #[.slice A0_0 l0_0.length c0_0, .slice A0_1 l0_1.length c0_1, .slice A0_2 l0_2.length c0_2] 39 (0, 0)) (by (with_reducible repeat (first | refine blk_drewN ?_ _ | refine blk_drew ?_ | refine blk_alloc ?_ _)); exact BK1664.out)) : gb1664 ≠ gb1686)); have n12_ := Aside0.mk ((by rw [hg]; exact Nat.ne_of_gt (blk_lt (g := gb1664) (o := .cells #[.slice A0_0 l0_0.length c0_0, .slice A0_1 l0_1.length c0_1, .slice A0_2 l0_2.length c0_2] 39 (0, 0)) (by (with_reducible repeat (first | refine blk_drewN ?_ _ | refine blk_drew ?_ | refine blk_alloc ?_ _)); exact BK1664.out)) : gb1686 ≠ gb1664)); clear HO1668; clear HO1671; clear HO1674; clear HO1679; clear HO1682; clear HO1685; clear BK1664; clear HB; have HO1668 := n0_; have HO1671 := n1_; have HO1674 := n2_; have HO1679 := n3_; have HO1682 := n4_; have HO1685 := n5_; have BK1664 := n6_; have HB := n7_; have BK1686 := n8_; have GW1686 := n9_; have GE1686 := n10_; have NB1664_1686 := n11_; have NB1686_1664 := n12_; clear n0_ n1_ n2_ n3_ n4_ n5_ n6_ n7_ n8_ n9_ n10_ n11_ n12_; clear hb hbox hg; obtain ⟨Ao24, co24, eo24⟩ := Kd.R_slice HO1679.out; subst eo24; have hnb25 := NB1686_1664.out; have hnc25 := NB1664_1686.out; have hcz26_0 : w23.cell? ⟨gb1686, 0, none⟩ = some (.slice none 0 0) := (blk_cell BK1686.out 0).trans rfl; have hcz26_1 : w23.cell? ⟨gb1686, 1, none⟩ = some (.slice none 0 0) := (blk_cell BK1686.out 1).trans rfl; have hcz26_2 : w23.cell? ⟨gb1686, 2, none⟩ = some (.slice none 0 0) := (blk_cell BK1686.out 2).trans rfl; have hfz26_0 := blk_frozen BK1686.out 0; have hfz26_1 := blk_frozen BK1686.out 1; have hfz26_2 := blk_frozen BK1686.out 2; obtain ⟨Ao27, co27, eo27⟩ := Kd.R_slice HO1682.out; subst eo27; obtain ⟨Ao28, co28, eo28⟩ := Kd.R_slice HO1685.out; subst eo28) | ((with_reducible refine gate_callee (f := 15) rfl ?_); refine goesL_ (some 24) rfl rfl Try.func15 (by kernel_rfl) rfl #[.agg #[.slice Ao24 t1677.length co24, .slice Ao27 t1680.length co27, .slice Ao28 t1683.length co28]] rfl (by (try simp only [List.map_toArray, List.map_cons, List.map_nil]); first | done | rfl | (simp only [List.length_drop, List.length_take]; rfl)) ?_; (with_reducible refine (impl_BestChainCost.calls k _ _ t1677 _ _ t1680 _ _ t1683 t1687 t1688 _ ?side1 ?side2 ?side3 ?side4 ?side5 ?side6 A10.out).mono ?_); (case side1 => refine (Kd.R_reads' (e := 3) (base := w.heap.size) (ok := fun k_ => ((((some k_ ≠ (.slice Ao27 t1680.length co27 : Value).ownBlock ∧ some k_ ≠ (.slice Ao28 t1683.length co28 : Value).ownBlock) ∧ some k_ ≠ (.slice Ao17 t1666.length co17 : Value).ownBlock) ∧ some k_ ≠ (.slice Ao18 t1669.length co18 : Value).ownBlock) ∧ some k_ ≠ (.slice Ao19 t1672.length co19 : Value).ownBlock)) (n := t1677.length) (c := co24) ?_).2.2; exact (by (with_reducible repeat (first | apply Kd.R_alloc | apply Kd.R_drewN | apply Kd.R_drew)); exact (Kd.R_mono (Kd.R_far (p := ⟨gb1686, 2, none⟩) (Kd.R_far (p := ⟨gb1686, 1, none⟩) (Kd.R_far (p := ⟨gb1686, 0, none⟩) (Kd.R_types HO1679.out BK1686.out (by decide)) (fun _ hk => hk.2) (.slice Ao24 t1677.length co24)) (fun _ hk => hk.2) (.slice Ao27 t1680.length co27)) (fun _ hk => hk.2) (.slice Ao28 t1683.length co28)) (fun _ h_ => h_.1)))); (case side2 => exact (Kd.R_reads' HO1679.out).2.1); (case side3 => refine (Kd.R_reads' (e := 3) (base := w.heap.size) (ok := fun k_ => ((((some k_ ≠ (.slice Ao24 t1677.length co24 : Value).ownBlock ∧ some k_ ≠ (.slice Ao28 t1683.length co28 : Value).ownBlock) ∧ some k_ ≠ (.slice Ao17 t1666.length co17 : Value).ownBlock) ∧ some k_ ≠ (.slice Ao18 t1669.length co18 : Value).ownBlock) ∧ some k_ ≠ (.slice Ao19 t1672.length co19 : Value).ownBlock)) (n := t1680.length) (c := co27) ?_).2.2; exact (by (with_reducible repeat (first | apply Kd.R_alloc | apply Kd.R_drewN | apply Kd.R_drew)); exact (Kd.R_mono (Kd.R_far (p := ⟨gb1686, 2, none⟩) (Kd.R_far (p := ⟨gb1686, 1, none⟩) (Kd.R_far (p := ⟨gb1686, 0, none⟩) (Kd.R_types HO1682.out BK1686.out (by decide)) (fun _ hk => hk.2) (.slice Ao24 t1677.length co24)) (fun _ hk => hk.2) (.slice Ao27 t1680.length co27)) (fun _ hk => hk.2) (.slice Ao28 t1683.length co28)) (fun _ h_ => h_.1)))); (case side4 => exact (Kd.R_reads' HO1682.out).2.1); (case side5 => refine (Kd.R_reads' (e := 3) (base := w.heap.size) (ok := fun k_ => ((((some k_ ≠ (.slice Ao24 t1677.length co24 : Value).ownBlock ∧ some k_ ≠ (.slice Ao27 t1680.length co27 : Value).ownBlock) ∧ some k_ ≠ (.slice Ao17 t1666.length co17 : Value).ownBlock) ∧ some k_ ≠ (.slice Ao18 t1669.length co18 : Value).ownBlock) ∧ some k_ ≠ (.slice Ao19 t1672.length co19 : Value).ownBlock)) (n := t1683.length) (c := co28) ?_).2.2; exact (by (with_reducible repeat (first | apply Kd.R_alloc | apply Kd.R_drewN | apply Kd.R_drew)); exact (Kd.R_mono (Kd.R_far (p := ⟨gb1686, 2, none⟩) (Kd.R_far (p := ⟨gb1686, 1, none⟩) (Kd.R_far (p := ⟨gb1686, 0, none⟩) (Kd.R_types HO1685.out BK1686.out (by decide)) (fun _ hk => hk.2) (.slice Ao24 t1677.length co24)) (fun _ hk => hk.2) (.slice Ao27 t1680.length co27)) (fun _ hk => hk.2) (.slice Ao28 t1683.length co28)) (fun _ h_ => h_.1)))); (case side6 => exact (Kd.R_reads' HO1685.out).2.1); rintro e w29 ⟨rfl, hb⟩; refine ⟨_, rfl, ?_⟩; have n0_ := Aside0.mk (Kd.R_below (by (with_reducible repeat (first | apply Kd.R_alloc | apply Kd.R_drewN | apply Kd.R_drew)); exact (Kd.R_mono (Kd.R_far (p := ⟨gb1686, 2, none⟩) (Kd.R_far (p := ⟨gb1686, 1, none⟩) (Kd.R_far (p := ⟨gb1686, 0, none⟩) (Kd.R_types HO1668.out BK1686.out (by decide)) (fun _ hk => hk.2) (.slice Ao24 t1677.length co24)) (fun _ hk => hk.2) (.slice Ao27 t1680.length co27)) (fun _ hk => hk.2) (.slice Ao28 t1683.length co28)) (fun _ h_ => h_.1))) hb); have n1_ := Aside0.mk (Kd.R_below (by (with_reducible repeat (first | apply Kd.R_alloc | apply Kd.R_drewN | apply Kd.R_drew)); exact (Kd.R_mono (Kd.R_far (p := ⟨gb1686, 2, none⟩) (Kd.R_far (p := ⟨gb1686, 1, none⟩) (Kd.R_far (p := ⟨gb1686, 0, none⟩) (Kd.R_types HO1671.out BK1686.out (by decide)) (fun _ hk => hk.2) (.slice Ao24 t1677.length co24)) (fun _ hk => hk.2) (.slice Ao27 t1680.length co27)) (fun _ hk => hk.2) (.slice Ao28 t1683.length co28)) (fun _ h_ => h_.1))) hb); have n2_ := Aside0.mk (Kd.R_below (by (with_reducible repeat (first | apply Kd.R_alloc | apply Kd.R_drewN | apply Kd.R_drew)); exact (Kd.R_mono (Kd.R_far (p := ⟨gb1686, 2, none⟩) (Kd.R_far (p := ⟨gb1686, 1, none⟩) (Kd.R_far (p := ⟨gb1686, 0, none⟩) (Kd.R_types HO1674.out BK1686.out (by decide)) (fun _ hk => hk.2) (.slice Ao24 t1677.length co24)) (fun _ hk => hk.2) (.slice Ao27 t1680.length co27)) (fun _ hk => hk.2) (.slice Ao28 t1683.length co28)) (fun _ h_ => h_.1))) hb); have n3_ := Aside0.mk (Kd.R_below (by (with_reducible repeat (first | apply Kd.R_alloc | apply Kd.R_drewN | apply Kd.R_drew)); exact (Kd.R_mono (Kd.R_far (p := ⟨gb1686, 2, none⟩) (Kd.R_far (p := ⟨gb1686, 1, none⟩) (Kd.R_far (p := ⟨gb1686, 0, none⟩) (Kd.R_types HO1679.out BK1686.out (by decide)) (fun _ hk => hk.2) (.slice Ao24 t1677.length co24)) (fun _ hk => hk.2) (.slice Ao27 t1680.length co27)) (fun _ hk => hk.2) (.slice Ao28 t1683.length co28)) (fun _ h_ => h_.1))) hb); have n4_ := Aside0.mk (Kd.R_below (by (with_reducible repeat (first | apply Kd.R_alloc | apply Kd.R_drewN | apply Kd.R_drew)); exact (Kd.R_mono (Kd.R_far (p := ⟨gb1686, 2, none⟩) (Kd.R_far (p := ⟨gb1686, 1, none⟩) (Kd.R_far (p := ⟨gb1686, 0, none⟩) (Kd.R_types HO1682.out BK1686.out (by decide)) (fun _ hk => hk.2) (.slice Ao24 t1677.length co24)) (fun _ hk => hk.2) (.slice Ao27 t1680.length co27)) (fun _ hk => hk.2) (.slice Ao28 t1683.length co28)) (fun _ h_ => h_.1))) hb); have n5_ := Aside0.mk (Kd.R_below (by (with_reducible repeat (first | apply Kd.R_alloc | apply Kd.R_drewN | apply Kd.R_drew)); exact (Kd.R_mono (Kd.R_far (p := ⟨gb1686, 2, none⟩) (Kd.R_far (p := ⟨gb1686, 1, none⟩) (Kd.R_far (p := ⟨gb1686, 0, none⟩) (Kd.R_types HO1685.out BK1686.out (by decide)) (fun _ hk => hk.2) (.slice Ao24 t1677.length co24)) (fun _ hk => hk.2) (.slice Ao27 t1680.length co27)) (fun _ hk => hk.2) (.slice Ao28 t1683.length co28)) (fun _ h_ => h_.1))) hb); have n6_ := Aside0.mk (blk_below (g := gb1664) (o := .cells #[.slice A0_0 l0_0.length c0_0, .slice A0_1 l0_1.length c0_1, .slice A0_2 l0_2.length c0_2] 39 (0, 0)) (by (with_reducible repeat (first | refine blk_drewN ?_ _ | refine blk_drew ?_ | refine blk_alloc ?_ _)); refine blk_far ?_ NB1664_1686.out _; (with_reducible repeat (first | refine blk_drewN ?_ _ | refine blk_drew ?_ | refine blk_alloc ?_ _)); refine blk_far ?_ NB1664_1686.out _; (with_reducible repeat (first | refine blk_drewN ?_ _ | refine blk_drew ?_ | refine blk_alloc ?_ _)); refine blk_far ?_ NB1664_1686.out _; (with_reducible repeat (first | refine blk_drewN ?_ _ | refine blk_drew ?_ | refine blk_alloc ?_ _)); exact BK1664.out) hb); have n7_ := Aside0.mk (blk_below (g := gb1686) (o := .cells #[.slice Ao24 t1677.length co24, .slice Ao27 t1680.length co27, .slice Ao28 t1683.length co28] 26 (0, 0)) (by (with_reducible repeat (first | refine blk_drewN ?_ _ | refine blk_drew ?_ | refine blk_alloc ?_ _)); refine blk_put (cs := #[.slice Ao24 t1677.length co24, .slice Ao27 t1680.length co27, .slice none 0 0]) ?_ 2 _ rfl; (with_reducible repeat (first | refine blk_drewN ?_ _ | refine blk_drew ?_ | refine blk_alloc ?_ _)); refine blk_put (cs := #[.slice Ao24 t1677.length co24, .slice none 0 0, .slice none 0 0]) ?_ 1 _ rfl; (with_reducible repeat (first | refine blk_drewN ?_ _ | refine blk_drew ?_ | refine blk_alloc ?_ _)); refine blk_put (cs := #[.slice none 0 0, .slice none 0 0, .slice none 0 0]) ?_ 0 _ rfl; (with_reducible repeat (first | refine blk_drewN ?_ _ | refine blk_drew ?_ | refine blk_alloc ?_ _)); exact BK1686.out) hb); have n8_ := Aside0.mk (below_step (by repeat (first | (with_reducible first | exact HB.out | apply below_alloc | apply pw_below_drewN | apply below_drew1 | refine below_set ?_ GE1664.out | refine below_set ?_ GE1686.out) | exact HB.out)) hb); clear HO1668; clear HO1671; clear HO1674; clear HO1679; clear HO1682; clear HO1685; clear BK1664; clear BK1686; clear HB; have HO1668 := n0_; have HO1671 := n1_; have HO1674 := n2_; have HO1679 := n3_; have HO1682 := n4_; have HO1685 := n5_; have BK1664 := n6_; have BK1686 := n7_; have HB := n8_; clear n0_ n1_ n2_ n3_ n4_ n5_ n6_ n7_ n8_; (try clear hb); (try clear hb2); (try clear hk); (try clear hi)))
   (try simp only [Act.put, List.setIfInBounds_toArray, List.set_cons_zero, List.set_cons_succ])
   go_cut [34] (fun v34 wc => ∃ (kq : Nat) (x34_10 : Bool), v34 = .bool x34_10 ∧ Aside0 (laws_FnExactBestChainCost.j0 kq x34_10 l0_0 l0_1 l0_2 t1677 t1680 t1683 = some r) ∧ Aside0 (kq ≤ k) ∧ Aside0 (Kd.R (Kd.int .i64) 3 wc w.heap.size (fun k_ => some k_ ≠ ((.slice Ao27 t1680.length co27) : Value).ownBlock ∧ some k_ ≠ ((.slice Ao28 t1683.length co28) : Value).ownBlock) (.slice Ao24 t1677.length co24) t1677) ∧ Aside0 (Kd.R (Kd.int .i64) 3 wc w.heap.size (fun k_ => some k_ ≠ ((.slice Ao24 t1677.length co24) : Value).ownBlock ∧ some k_ ≠ ((.slice Ao28 t1683.length co28) : Value).ownBlock) (.slice Ao27 t1680.length co27) t1680) ∧ Aside0 (Kd.R (Kd.int .i64) 3 wc w.heap.size (fun k_ => some k_ ≠ ((.slice Ao24 t1677.length co24) : Value).ownBlock ∧ some k_ ≠ ((.slice Ao27 t1680.length co27) : Value).ownBlock) (.slice Ao28 t1683.length co28) t1683) ∧ Aside0 (wc.heap[gb1664]? = some (.cells #[(.slice A0_0 l0_0.length c0_0), (.slice A0_1 l0_1.length c0_1), (.slice A0_2 l0_2.length c0_2)] 39 (0, 0))) ∧ Aside0 (wc.heap[gb1686]? = some (.cells #[(.slice Ao24 t1677.length co24), (.slice Ao27 t1680.length co27), (.slice Ao28 t1683.length co28)] 26 (0, 0))) ∧ Aside0 (Below w.heap.size w wc))
   case first =>
    have H := HC11.out
    clear HC11
    by_cases c30 : t1687 = t1675
    · rw [if_pos c30] at H
      have c30b0 : (t1687 == t1675) = true := beq_iff_eq.mpr c30
      have c30b1 : (t1687 != t1675) = false := bne_eq_false_iff_eq.mpr c30
      clear c30
      (first | rw [c30b0] | (simp only [i64_w, i32_w]; rw [c30b0]) | skip)
      have H' := Aside0.mk H
      clear H
      go_wp2
      go_meet
      case rel => exact ⟨_, ((t1688 != t1676)), (by first | rfl | (simp; done) | (simp [*]; done)), H', ⟨by first | omega | exact Nat.le_refl _⟩, ⟨by (with_reducible repeat (first | apply Kd.R_alloc | apply Kd.R_drewN | apply Kd.R_drew)); exact Kd.R_mono HO1679.out (fun _ hk => ⟨hk.1.1.1.1, hk.1.1.1.2⟩)⟩, ⟨by (with_reducible repeat (first | apply Kd.R_alloc | apply Kd.R_drewN | apply Kd.R_drew)); exact Kd.R_mono HO1682.out (fun _ hk => ⟨hk.1.1.1.1, hk.1.1.1.2⟩)⟩, ⟨by (with_reducible repeat (first | apply Kd.R_alloc | apply Kd.R_drewN | apply Kd.R_drew)); exact Kd.R_mono HO1685.out (fun _ hk => ⟨hk.1.1.1.1, hk.1.1.1.2⟩)⟩, ⟨by (with_reducible repeat (first | refine blk_drewN ?_ _ | refine blk_drew ?_ | refine blk_alloc ?_ _)); exact BK1664.out⟩, ⟨by (with_reducible repeat (first | refine blk_drewN ?_ _ | refine blk_drew ?_ | refine blk_alloc ?_ _)); exact BK1686.out⟩, ⟨by repeat (first | (with_reducible first | exact HB.out | apply below_alloc | apply pw_below_drewN | apply below_drew1 | refine below_set ?_ GE1664.out | refine below_set ?_ GE1686.out) | exact HB.out)⟩⟩
    · rw [if_neg c30] at H
      have c30b0 : (t1687 == t1675) = false := beq_eq_false_iff_ne.mpr c30
      have c30b1 : (t1687 != t1675) = true := bne_iff_ne.mpr c30
      (first | rw [c30b0] | (simp only [i64_w, i32_w]; rw [c30b0]) | skip)
      have H' := Aside0.mk H
      clear H
      go_wp2
      go_meet
      case rel => exact ⟨_, (true), (by first | rfl | (simp; done) | (simp [*]; done)), H', ⟨by first | omega | exact Nat.le_refl _⟩, ⟨by (with_reducible repeat (first | apply Kd.R_alloc | apply Kd.R_drewN | apply Kd.R_drew)); exact Kd.R_mono HO1679.out (fun _ hk => ⟨hk.1.1.1.1, hk.1.1.1.2⟩)⟩, ⟨by (with_reducible repeat (first | apply Kd.R_alloc | apply Kd.R_drewN | apply Kd.R_drew)); exact Kd.R_mono HO1682.out (fun _ hk => ⟨hk.1.1.1.1, hk.1.1.1.2⟩)⟩, ⟨by (with_reducible repeat (first | apply Kd.R_alloc | apply Kd.R_drewN | apply Kd.R_drew)); exact Kd.R_mono HO1685.out (fun _ hk => ⟨hk.1.1.1.1, hk.1.1.1.2⟩)⟩, ⟨by (with_reducible repeat (first | refine blk_drewN ?_ _ | refine blk_drew ?_ | refine blk_alloc ?_ _)); exact BK1664.out⟩, ⟨by (with_reducible repeat (first | refine blk_drewN ?_ _ | refine blk_drew ?_ | refine blk_alloc ?_ _)); exact BK1686.out⟩, ⟨by repeat (first | (with_reducible first | exact HB.out | apply below_alloc | apply pw_below_drewN | apply below_drew1 | refine below_set ?_ GE1664.out | refine below_set ?_ GE1686.out) | exact HB.out)⟩⟩
   case rest =>
    clear HC11
    try clear c1
    try clear c2
    try clear p2
    try clear c3
    try clear c3b0
    try clear c4
    try clear c15
    try clear c16
    try clear c22
    try clear c23
    try clear c25
    try clear c30
    try clear c30b0
    try clear c30b1
    try clear hcz13_0
    try clear hcz13_1
    try clear hcz13_2
    try clear hcz15_0
    try clear hcz15_1
    try clear hcz15_2
    try clear hcz21_0
    try clear hcz21_1
    try clear hcz21_2
    try clear hcz26_0
    try clear hcz26_1
    try clear hcz26_2
    try clear hcz5_0
    try clear hcz5_1
    try clear hcz5_2
    try clear hfz13_0
    try clear hfz13_1
    try clear hfz13_2
    try clear hfz15_0
    try clear hfz15_1
    try clear hfz15_2
    try clear hfz21_0
    try clear hfz21_1
    try clear hfz21_2
    try clear hfz26_0
    try clear hfz26_1
    try clear hfz26_2
    try clear hfz5_0
    try clear hfz5_1
    try clear hfz5_2
    obtain ⟨kq, x34_10, rfl, HA, HJ10, HO_1687000, HO_1687001, HO_1687002, BK1664, BK1686, HB⟩ := hcut
    cases kq with
    | zero => exact absurd HA.out (by simp [laws_FnExactBestChainCost.j0])
    | succ kj10 =>
     have H := HA.out
     clear HA
     simp only [laws_FnExactBestChainCost.j0] at H
     by_cases c31 : x34_10 = true
     · subst c31
       have H1 : (some false) = some r := by rw [if_pos rfl] at H; exact H
       clear H
       have H := H1
       clear H1
       obtain rfl := Option.some.inj H
       go_wp2
       go_ret
       exact ⟨by first | rfl | (simp [errW_none, errW_some] <;> rfl) | (simp [*, errW_none, errW_some] <;> rfl), by repeat (first | (with_reducible first | exact HB.out | apply below_alloc | apply pw_below_drewN | apply below_drew1 | refine below_set ?_ GE1664.out | refine below_set ?_ GE1686.out) | exact HB.out)⟩
     · replace c31 := Bool.eq_false_iff.mpr c31
       subst c31
       have H1 : ((laws_toChain.f kj10 l0_0 l0_1 l0_2).bind fun bt1689 => ((laws_eqChain.f kj10 t1677 t1680 t1683 bt1689.1 bt1689.2.1 bt1689.2.2).bind fun t1698 => (if t1698 = true then (some true) else (some false)))) = some r := by rw [if_neg (show ¬ (false = true) by decide)] at H; exact H
       clear H
       have H := H1
       clear H1
       replace H := Option.bind_eq_some_iff.mp H
       obtain ⟨⟨t1689, t1692, t1695⟩, A320, H⟩ := H
       replace H : ((laws_eqChain.f kj10 t1677 t1680 t1683 t1689 t1692 t1695).bind fun t1698 => (if t1698 = true then (some true) else (some false))) = some r := H
       have A32 := Aside0.mk A320
       clear A320
       replace H := Option.bind_eq_some_iff.mp H
       obtain ⟨t1698, A330, H⟩ := H
       replace H : (if t1698 = true then (some true) else (some false)) = some r := H
       have A33 := Aside0.mk A330
       clear A330
       by_cases c34 : t1698 = true
       · subst c34
         have H1 : (some true) = some r := by rw [if_pos rfl] at H; exact H
         clear H
         have H := H1
         clear H1
         obtain rfl := Option.some.inj H
         try go_wp2
         have n0_ := Aside0.mk (Kd.R_drew HO_1687000.out)
         have n1_ := Aside0.mk (Kd.R_drew HO_1687001.out)
         have n2_ := Aside0.mk (Kd.R_drew HO_1687002.out)
         have n3_ := Aside0.mk (blk_drew BK1664.out)
         have n4_ := Aside0.mk (blk_drew BK1686.out)
         have n5_ := Aside0.mk (below_drew1 HB.out)
         clear HO_1687000
         clear HO_1687001
         clear HO_1687002
         clear BK1664
         clear BK1686
         clear HB
         have HO_1687000 := n0_
         have HO_1687001 := n1_
         have HO_1687002 := n2_
         have BK1664 := n3_
         have BK1686 := n4_
         have HB := n5_
         clear n0_ n1_ n2_ n3_ n4_ n5_
         refine start_ (n := 5) (S := fun w' => w'.cell? ⟨gb1686, 0, none⟩ = some (.slice Ao24 t1677.length co24) ∧ w'.cell? ⟨gb1686, 1, none⟩ = some (.slice Ao27 t1680.length co27) ∧ w'.cell? ⟨gb1686, 2, none⟩ = some (.slice Ao28 t1683.length co28) ∧ w'.cell? ⟨gb1664, 0, none⟩ = some (.slice A0_0 l0_0.length c0_0) ∧ w'.cell? ⟨gb1664, 1, none⟩ = some (.slice A0_1 l0_1.length c0_1) ∧ w'.cell? ⟨gb1664, 2, none⟩ = some (.slice A0_2 l0_2.length c0_2)) (ds := []) #[false, false, false, false, false] (by kernel_rfl) rfl rfl ⟨(blk_cell BK1686.out 0).trans rfl, (blk_cell BK1686.out 1).trans rfl, (blk_cell BK1686.out 2).trans rfl, (blk_cell BK1664.out 0).trans rfl, (blk_cell BK1664.out 1).trans rfl, (blk_cell BK1664.out 2).trans rfl⟩ (fun hHeld => ?_)
         generalize wc.drew = w35 at HO_1687000 HO_1687001 HO_1687002 BK1664 BK1686 HB hHeld ⊢
         refine take_ (i := 0) (N := some 35) (v := ?_) (a' := ?_) #[true, false, false, false, false] rfl rfl (by kernel_rfl) (fun _ _ _ h => h) (Or.inl ⟨by rfl, ?_⟩) hHeld ?_ ?_
         rotate_left
         · rintro w' ⟨s0, s1, s2, s3, s4, s5⟩
           go_simp
           with_reducible rfl
         rotate_left
         · simp only [Act.put, List.setIfInBounds_toArray, List.set_cons_zero, List.set_cons_succ, i64_w, i32_w]
           rfl
         refine take_ (i := 1) (N := some 36) (v := ?_) (a' := ?_) #[true, true, false, false, false] rfl rfl (by kernel_rfl) (fun _ _ _ h => h) (Or.inl ⟨by rfl, ?_⟩) hHeld ?_ ?_
         rotate_left
         · rintro w' ⟨s0, s1, s2, s3, s4, s5⟩
           go_simp
           with_reducible rfl
         rotate_left
         · simp only [Act.put, List.setIfInBounds_toArray, List.set_cons_zero, List.set_cons_succ, i64_w, i32_w]
           rfl
         refine one_ (i := 2) (N := some 37) #[true, true, true, false, false] rfl rfl (by kernel_rfl) (by decide) (fun K hK => ?_)
         refine goes_ Try.func23 (by kernel_rfl) rfl #[.agg #[.slice A0_0 l0_0.length c0_0, .slice A0_1 l0_1.length c0_1, .slice A0_2 l0_2.length c0_2]] (by rfl) rfl rfl (by (try simp only [List.map_toArray, List.map_cons, List.map_nil]); first | done | rfl | (simp only [List.length_drop, List.length_take]; rfl)) ?_
         with_reducible refine (laws_toChain.calls kj10 _ _ l0_0 _ _ l0_1 _ _ l0_2 t1689 t1692 t1695 _ ?side1 ?side2 ?side3 ?side4 ?side5 ?side6 A32.out).mono ?_
         (case side1 => repeat (first | exact (Kd.C_below HR0_0.out HB.out) | (with_reducible refine Kd.C_alloc ?_ _) | (with_reducible refine Kd.C_drewN ?_ _) | (with_reducible refine Kd.C_drew ?_)))
         (case side2 => exact HC0_0.out)
         (case side3 => repeat (first | exact (Kd.C_below HR0_1.out HB.out) | (with_reducible refine Kd.C_alloc ?_ _) | (with_reducible refine Kd.C_drewN ?_ _) | (with_reducible refine Kd.C_drew ?_)))
         (case side4 => exact HC0_1.out)
         (case side5 => repeat (first | exact (Kd.C_below HR0_2.out HB.out) | (with_reducible refine Kd.C_alloc ?_ _) | (with_reducible refine Kd.C_drewN ?_ _) | (with_reducible refine Kd.C_drew ?_)))
         (case side6 => exact HC0_2.out)
         rintro e w36 ⟨v1690, v1693, v1696, rfl, ho0, ho1, ho2, hb⟩
         refine ⟨_, rfl, ?_⟩
         have n0_ := Aside0.mk (Kd.R_mono (Kd.R_told (Kd.R_told (Kd.R_told (Kd.R_old (by (with_reducible repeat (first | apply Kd.R_alloc | apply Kd.R_drewN | apply Kd.R_drew)); exact HO_1687000.out) hb) (Kd.R_base ho0)) (Kd.R_base ho1)) (Kd.R_base ho2)) (fun _ h_ => h_.1))
         have n1_ := Aside0.mk (Kd.R_mono (Kd.R_told (Kd.R_told (Kd.R_told (Kd.R_old (by (with_reducible repeat (first | apply Kd.R_alloc | apply Kd.R_drewN | apply Kd.R_drew)); exact HO_1687001.out) hb) (Kd.R_base ho0)) (Kd.R_base ho1)) (Kd.R_base ho2)) (fun _ h_ => h_.1))
         have n2_ := Aside0.mk (Kd.R_mono (Kd.R_told (Kd.R_told (Kd.R_told (Kd.R_old (by (with_reducible repeat (first | apply Kd.R_alloc | apply Kd.R_drewN | apply Kd.R_drew)); exact HO_1687002.out) hb) (Kd.R_base ho0)) (Kd.R_base ho1)) (Kd.R_base ho2)) (fun _ h_ => h_.1))
         have n3_ := Aside0.mk (Kd.R_lower (Kd.R_new' (Kd.R_new' (Kd.R_new' ho0 (Kd.R_lt (by (with_reducible repeat (first | apply Kd.R_alloc | apply Kd.R_drewN | apply Kd.R_drew)); exact HO_1687000.out))) (Kd.R_lt (by (with_reducible repeat (first | apply Kd.R_alloc | apply Kd.R_drewN | apply Kd.R_drew)); exact HO_1687001.out))) (Kd.R_lt (by (with_reducible repeat (first | apply Kd.R_alloc | apply Kd.R_drewN | apply Kd.R_drew)); exact HO_1687002.out))) (below_size (by repeat (first | (with_reducible first | exact HB.out | apply below_alloc | apply pw_below_drewN | apply below_drew1 | refine below_set ?_ GE1664.out | refine below_set ?_ GE1686.out) | exact HB.out))))
         have n4_ := Aside0.mk (Kd.R_lower (Kd.R_new' (Kd.R_new' (Kd.R_new' ho1 (Kd.R_lt (by (with_reducible repeat (first | apply Kd.R_alloc | apply Kd.R_drewN | apply Kd.R_drew)); exact HO_1687000.out))) (Kd.R_lt (by (with_reducible repeat (first | apply Kd.R_alloc | apply Kd.R_drewN | apply Kd.R_drew)); exact HO_1687001.out))) (Kd.R_lt (by (with_reducible repeat (first | apply Kd.R_alloc | apply Kd.R_drewN | apply Kd.R_drew)); exact HO_1687002.out))) (below_size (by repeat (first | (with_reducible first | exact HB.out | apply below_alloc | apply pw_below_drewN | apply below_drew1 | refine below_set ?_ GE1664.out | refine below_set ?_ GE1686.out) | exact HB.out))))
         have n5_ := Aside0.mk (Kd.R_lower (Kd.R_new' (Kd.R_new' (Kd.R_new' ho2 (Kd.R_lt (by (with_reducible repeat (first | apply Kd.R_alloc | apply Kd.R_drewN | apply Kd.R_drew)); exact HO_1687000.out))) (Kd.R_lt (by (with_reducible repeat (first | apply Kd.R_alloc | apply Kd.R_drewN | apply Kd.R_drew)); exact HO_1687001.out))) (Kd.R_lt (by (with_reducible repeat (first | apply Kd.R_alloc | apply Kd.R_drewN | apply Kd.R_drew)); exact HO_1687002.out))) (below_size (by repeat (first | (with_reducible first | exact HB.out | apply below_alloc | apply pw_below_drewN | apply below_drew1 | refine below_set ?_ GE1664.out | refine below_set ?_ GE1686.out) | exact HB.out))))
         have n6_ := Aside0.mk (blk_below (g := gb1664) (o := .cells #[.slice A0_0 l0_0.length c0_0, .slice A0_1 l0_1.length c0_1, .slice A0_2 l0_2.length c0_2] 39 (0, 0)) (by (with_reducible repeat (first | refine blk_drewN ?_ _ | refine blk_drew ?_ | refine blk_alloc ?_ _)); exact BK1664.out) hb)
         have n7_ := Aside0.mk (blk_below (g := gb1686) (o := .cells #[.slice Ao24 t1677.length co24, .slice Ao27 t1680.length co27, .slice Ao28 t1683.length co28] 26 (0, 0)) (by (with_reducible repeat (first | refine blk_drewN ?_ _ | refine blk_drew ?_ | refine blk_alloc ?_ _)); exact BK1686.out) hb)
         have n8_ := Aside0.mk (below_step (by repeat (first | (with_reducible first | exact HB.out | apply below_alloc | apply pw_below_drewN | apply below_drew1 | refine below_set ?_ GE1664.out | refine below_set ?_ GE1686.out) | exact HB.out)) hb)
         clear HO_1687000
         clear HO_1687001
         clear HO_1687002
         clear BK1664
         clear BK1686
         clear HB
         have HO_1687000 := n0_
         have HO_1687001 := n1_
         have HO_1687002 := n2_
         have HO1691 := n3_
         have HO1694 := n4_
         have HO1697 := n5_
         have BK1664 := n6_
         have BK1686 := n7_
         have HB := n8_
         clear n0_ n1_ n2_ n3_ n4_ n5_ n6_ n7_ n8_
         (try clear hb)
         (try clear hb2)
         (try clear hk)
         (try clear hi)
         (try clear ho0)
         (try clear ho1)
         (try clear ho2)
         obtain ⟨Ao37, co37, eo37⟩ := Kd.R_slice HO1691.out
         (first | subst eo37 | (injection eo37 with f1_ f2_ f3_; have f4_ := f1_.symm; have f5_ := f3_.symm; clear f1_ f2_ f3_; subst f4_; subst f5_))
         obtain ⟨Ao38, co38, eo38⟩ := Kd.R_slice HO1694.out
         (first | subst eo38 | (injection eo38 with f1_ f2_ f3_; have f4_ := f1_.symm; have f5_ := f3_.symm; clear f1_ f2_ f3_; subst f4_; subst f5_))
         obtain ⟨Ao39, co39, eo39⟩ := Kd.R_slice HO1697.out
         (first | subst eo39 | (injection eo39 with f1_ f2_ f3_; have f4_ := f1_.symm; have f5_ := f3_.symm; clear f1_ f2_ f3_; subst f4_; subst f5_))
         refine hK.out _ _ ⟨(blk_cell BK1686.out 0).trans rfl, (blk_cell BK1686.out 1).trans rfl, (blk_cell BK1686.out 2).trans rfl, (blk_cell BK1664.out 0).trans rfl, (blk_cell BK1664.out 1).trans rfl, (blk_cell BK1664.out 2).trans rfl⟩ (fun hHeld => ?_)
         clear hK K
         refine norm_ (a' := ?_) ?_ ?_
         rotate_left
         · show Act.put _ (some 37) _ = _
           simp only [Act.put, List.setIfInBounds_toArray, List.set_cons_zero, List.set_cons_succ, i64_w, i32_w]
           rfl
         refine one_ (i := 3) (N := some 38) #[true, true, true, true, false] rfl rfl (by kernel_rfl) (by decide) (fun K hK => ?_)
         refine goes_ Try.func24 (by kernel_rfl) rfl #[.agg #[.slice Ao24 t1677.length co24, .slice Ao27 t1680.length co27, .slice Ao28 t1683.length co28], .agg #[.slice Ao37 t1689.length co37, .slice Ao38 t1692.length co38, .slice Ao39 t1695.length co39]] (by rfl) rfl rfl (by (try simp only [List.map_toArray, List.map_cons, List.map_nil]); first | done | rfl | (simp only [List.length_drop, List.length_take]; rfl)) ?_
         with_reducible refine (laws_eqChain.calls kj10 _ _ t1677 _ _ t1680 _ _ t1683 _ _ t1689 _ _ t1692 _ _ t1695 true _ ?side1 ?side2 ?side3 ?side4 ?side5 ?side6 ?side7 ?side8 ?side9 ?side10 ?side11 ?side12 A33.out).mono ?_
         (case side1 => repeat (first | exact (Kd.R_reads' HO_1687000.out).2.2 | (with_reducible refine Kd.C_alloc ?_ _) | (with_reducible refine Kd.C_drewN ?_ _) | (with_reducible refine Kd.C_drew ?_)))
         (case side2 => exact (Kd.R_reads' HO_1687000.out).2.1)
         (case side3 => repeat (first | exact (Kd.R_reads' HO_1687001.out).2.2 | (with_reducible refine Kd.C_alloc ?_ _) | (with_reducible refine Kd.C_drewN ?_ _) | (with_reducible refine Kd.C_drew ?_)))
         (case side4 => exact (Kd.R_reads' HO_1687001.out).2.1)
         (case side5 => repeat (first | exact (Kd.R_reads' HO_1687002.out).2.2 | (with_reducible refine Kd.C_alloc ?_ _) | (with_reducible refine Kd.C_drewN ?_ _) | (with_reducible refine Kd.C_drew ?_)))
         (case side6 => exact (Kd.R_reads' HO_1687002.out).2.1)
         (case side7 => repeat (first | exact (Kd.R_reads' HO1691.out).2.2 | (with_reducible refine Kd.C_alloc ?_ _) | (with_reducible refine Kd.C_drewN ?_ _) | (with_reducible refine Kd.C_drew ?_)))
         (case side8 => exact (Kd.R_reads' HO1691.out).2.1)
         (case side9 => repeat (first | exact (Kd.R_reads' HO1694.out).2.2 | (with_reducible refine Kd.C_alloc ?_ _) | (with_reducible refine Kd.C_drewN ?_ _) | (with_reducible refine Kd.C_drew ?_)))
         (case side10 => exact (Kd.R_reads' HO1694.out).2.1)
         (case side11 => repeat (first | exact (Kd.R_reads' HO1697.out).2.2 | (with_reducible refine Kd.C_alloc ?_ _) | (with_reducible refine Kd.C_drewN ?_ _) | (with_reducible refine Kd.C_drew ?_)))
         (case side12 => exact (Kd.R_reads' HO1697.out).2.1)
         rintro e w40 ⟨rfl, hb⟩
         refine ⟨_, rfl, ?_⟩
         have n0_ := Aside0.mk (Kd.R_below (by (with_reducible repeat (first | apply Kd.R_alloc | apply Kd.R_drewN | apply Kd.R_drew)); exact HO_1687000.out) hb)
         have n1_ := Aside0.mk (Kd.R_below (by (with_reducible repeat (first | apply Kd.R_alloc | apply Kd.R_drewN | apply Kd.R_drew)); exact HO_1687001.out) hb)
         have n2_ := Aside0.mk (Kd.R_below (by (with_reducible repeat (first | apply Kd.R_alloc | apply Kd.R_drewN | apply Kd.R_drew)); exact HO_1687002.out) hb)
         have n3_ := Aside0.mk (Kd.R_below (by (with_reducible repeat (first | apply Kd.R_alloc | apply Kd.R_drewN | apply Kd.R_drew)); exact HO1691.out) hb)
         have n4_ := Aside0.mk (Kd.R_below (by (with_reducible repeat (first | apply Kd.R_alloc | apply Kd.R_drewN | apply Kd.R_drew)); exact HO1694.out) hb)
         have n5_ := Aside0.mk (Kd.R_below (by (with_reducible repeat (first | apply Kd.R_alloc | apply Kd.R_drewN | apply Kd.R_drew)); exact HO1697.out) hb)
         have n6_ := Aside0.mk (blk_below (g := gb1664) (o := .cells #[.slice A0_0 l0_0.length c0_0, .slice A0_1 l0_1.length c0_1, .slice A0_2 l0_2.length c0_2] 39 (0, 0)) (by (with_reducible repeat (first | refine blk_drewN ?_ _ | refine blk_drew ?_ | refine blk_alloc ?_ _)); exact BK1664.out) hb)
         have n7_ := Aside0.mk (blk_below (g := gb1686) (o := .cells #[.slice Ao24 t1677.length co24, .slice Ao27 t1680.length co27, .slice Ao28 t1683.length co28] 26 (0, 0)) (by (with_reducible repeat (first | refine blk_drewN ?_ _ | refine blk_drew ?_ | refine blk_alloc ?_ _)); exact BK1686.out) hb)
         have n8_ := Aside0.mk (below_step (by repeat (first | (with_reducible first | exact HB.out | apply below_alloc | apply pw_below_drewN | apply below_drew1 | refine below_set ?_ GE1664.out | refine below_set ?_ GE1686.out) | exact HB.out)) hb)
         clear HO_1687000
         clear HO_1687001
         clear HO_1687002
         clear HO1691
         clear HO1694
         clear HO1697
         clear BK1664
         clear BK1686
         clear HB
         have HO_1687000 := n0_
         have HO_1687001 := n1_
         have HO_1687002 := n2_
         have HO1691 := n3_
         have HO1694 := n4_
         have HO1697 := n5_
         have BK1664 := n6_
         have BK1686 := n7_
         have HB := n8_
         clear n0_ n1_ n2_ n3_ n4_ n5_ n6_ n7_ n8_
         (try clear hb)
         (try clear hb2)
         (try clear hk)
         (try clear hi)
         refine hK.out _ _ ⟨(blk_cell BK1686.out 0).trans rfl, (blk_cell BK1686.out 1).trans rfl, (blk_cell BK1686.out 2).trans rfl, (blk_cell BK1664.out 0).trans rfl, (blk_cell BK1664.out 1).trans rfl, (blk_cell BK1664.out 2).trans rfl⟩ (fun hHeld => ?_)
         clear hK K
         refine norm_ (a' := ?_) ?_ ?_
         rotate_left
         · show Act.put _ (some 38) _ = _
           simp only [Act.put, List.setIfInBounds_toArray, List.set_cons_zero, List.set_cons_succ, i64_w, i32_w]
           rfl
         refine pure_ (i := 4) (N := some 39) (v := ?_) (a' := ?_) #[true, true, true, true, true] rfl rfl (by kernel_rfl) (fun _ _ _ h => h) (Or.inl ⟨by rfl, ?_⟩) ?_ ?_
         rotate_left
         · intro w'
           go_simp
           with_reducible rfl
         rotate_left
         · simp only [Act.put, List.setIfInBounds_toArray, List.set_cons_zero, List.set_cons_succ, i64_w, i32_w]
           rfl
         refine done_ (by kernel_rfl) ?_
         try go_wp2
         go_ret
         exact ⟨by first | rfl | (simp [errW_none, errW_some] <;> rfl) | (simp [*, errW_none, errW_some] <;> rfl), by repeat (first | (with_reducible first | exact HB.out | apply below_alloc | apply pw_below_drewN | apply below_drew1 | refine below_set ?_ GE1664.out | refine below_set ?_ GE1686.out) | exact HB.out)⟩
       · replace c34 := Bool.eq_false_iff.mpr c34
         subst c34
         have H1 : (some false) = some r := by rw [if_neg (show ¬ (false = true) by decide)] at H; exact H
         clear H
         have H := H1
         clear H1
         obtain rfl := Option.some.inj H
         try go_wp2
         have n0_ := Aside0.mk (Kd.R_drew HO_1687000.out)
         have n1_ := Aside0.mk (Kd.R_drew HO_1687001.out)
         have n2_ := Aside0.mk (Kd.R_drew HO_1687002.out)
         have n3_ := Aside0.mk (blk_drew BK1664.out)
         have n4_ := Aside0.mk (blk_drew BK1686.out)
         have n5_ := Aside0.mk (below_drew1 HB.out)
         clear HO_1687000
         clear HO_1687001
         clear HO_1687002
         clear BK1664
         clear BK1686
         clear HB
         have HO_1687000 := n0_
         have HO_1687001 := n1_
         have HO_1687002 := n2_
         have BK1664 := n3_
         have BK1686 := n4_
         have HB := n5_
         clear n0_ n1_ n2_ n3_ n4_ n5_
         refine start_ (n := 5) (S := fun w' => w'.cell? ⟨gb1686, 0, none⟩ = some (.slice Ao24 t1677.length co24) ∧ w'.cell? ⟨gb1686, 1, none⟩ = some (.slice Ao27 t1680.length co27) ∧ w'.cell? ⟨gb1686, 2, none⟩ = some (.slice Ao28 t1683.length co28) ∧ w'.cell? ⟨gb1664, 0, none⟩ = some (.slice A0_0 l0_0.length c0_0) ∧ w'.cell? ⟨gb1664, 1, none⟩ = some (.slice A0_1 l0_1.length c0_1) ∧ w'.cell? ⟨gb1664, 2, none⟩ = some (.slice A0_2 l0_2.length c0_2)) (ds := []) #[false, false, false, false, false] (by kernel_rfl) rfl rfl ⟨(blk_cell BK1686.out 0).trans rfl, (blk_cell BK1686.out 1).trans rfl, (blk_cell BK1686.out 2).trans rfl, (blk_cell BK1664.out 0).trans rfl, (blk_cell BK1664.out 1).trans rfl, (blk_cell BK1664.out 2).trans rfl⟩ (fun hHeld => ?_)
         generalize wc.drew = w41 at HO_1687000 HO_1687001 HO_1687002 BK1664 BK1686 HB hHeld ⊢
         refine take_ (i := 0) (N := some 35) (v := ?_) (a' := ?_) #[true, false, false, false, false] rfl rfl (by kernel_rfl) (fun _ _ _ h => h) (Or.inl ⟨by rfl, ?_⟩) hHeld ?_ ?_
         rotate_left
         · rintro w' ⟨s0, s1, s2, s3, s4, s5⟩
           go_simp
           with_reducible rfl
         rotate_left
         · simp only [Act.put, List.setIfInBounds_toArray, List.set_cons_zero, List.set_cons_succ, i64_w, i32_w]
           rfl
         refine take_ (i := 1) (N := some 36) (v := ?_) (a' := ?_) #[true, true, false, false, false] rfl rfl (by kernel_rfl) (fun _ _ _ h => h) (Or.inl ⟨by rfl, ?_⟩) hHeld ?_ ?_
         rotate_left
         · rintro w' ⟨s0, s1, s2, s3, s4, s5⟩
           go_simp
           with_reducible rfl
         rotate_left
         · simp only [Act.put, List.setIfInBounds_toArray, List.set_cons_zero, List.set_cons_succ, i64_w, i32_w]
           rfl
         refine one_ (i := 2) (N := some 37) #[true, true, true, false, false] rfl rfl (by kernel_rfl) (by decide) (fun K hK => ?_)
         refine goes_ Try.func23 (by kernel_rfl) rfl #[.agg #[.slice A0_0 l0_0.length c0_0, .slice A0_1 l0_1.length c0_1, .slice A0_2 l0_2.length c0_2]] (by rfl) rfl rfl (by (try simp only [List.map_toArray, List.map_cons, List.map_nil]); first | done | rfl | (simp only [List.length_drop, List.length_take]; rfl)) ?_
         with_reducible refine (laws_toChain.calls kj10 _ _ l0_0 _ _ l0_1 _ _ l0_2 t1689 t1692 t1695 _ ?side1 ?side2 ?side3 ?side4 ?side5 ?side6 A32.out).mono ?_
         (case side1 => repeat (first | exact (Kd.C_below HR0_0.out HB.out) | (with_reducible refine Kd.C_alloc ?_ _) | (with_reducible refine Kd.C_drewN ?_ _) | (with_reducible refine Kd.C_drew ?_)))
         (case side2 => exact HC0_0.out)
         (case side3 => repeat (first | exact (Kd.C_below HR0_1.out HB.out) | (with_reducible refine Kd.C_alloc ?_ _) | (with_reducible refine Kd.C_drewN ?_ _) | (with_reducible refine Kd.C_drew ?_)))
         (case side4 => exact HC0_1.out)
         (case side5 => repeat (first | exact (Kd.C_below HR0_2.out HB.out) | (with_reducible refine Kd.C_alloc ?_ _) | (with_reducible refine Kd.C_drewN ?_ _) | (with_reducible refine Kd.C_drew ?_)))
         (case side6 => exact HC0_2.out)
         rintro e w42 ⟨v1690, v1693, v1696, rfl, ho0, ho1, ho2, hb⟩
         refine ⟨_, rfl, ?_⟩
         have n0_ := Aside0.mk (Kd.R_mono (Kd.R_told (Kd.R_told (Kd.R_told (Kd.R_old (by (with_reducible repeat (first | apply Kd.R_alloc | apply Kd.R_drewN | apply Kd.R_drew)); exact HO_1687000.out) hb) (Kd.R_base ho0)) (Kd.R_base ho1)) (Kd.R_base ho2)) (fun _ h_ => h_.1))
         have n1_ := Aside0.mk (Kd.R_mono (Kd.R_told (Kd.R_told (Kd.R_told (Kd.R_old (by (with_reducible repeat (first | apply Kd.R_alloc | apply Kd.R_drewN | apply Kd.R_drew)); exact HO_1687001.out) hb) (Kd.R_base ho0)) (Kd.R_base ho1)) (Kd.R_base ho2)) (fun _ h_ => h_.1))
         have n2_ := Aside0.mk (Kd.R_mono (Kd.R_told (Kd.R_told (Kd.R_told (Kd.R_old (by (with_reducible repeat (first | apply Kd.R_alloc | apply Kd.R_drewN | apply Kd.R_drew)); exact HO_1687002.out) hb) (Kd.R_base ho0)) (Kd.R_base ho1)) (Kd.R_base ho2)) (fun _ h_ => h_.1))
         have n3_ := Aside0.mk (Kd.R_lower (Kd.R_new' (Kd.R_new' (Kd.R_new' ho0 (Kd.R_lt (by (with_reducible repeat (first | apply Kd.R_alloc | apply Kd.R_drewN | apply Kd.R_drew)); exact HO_1687000.out))) (Kd.R_lt (by (with_reducible repeat (first | apply Kd.R_alloc | apply Kd.R_drewN | apply Kd.R_drew)); exact HO_1687001.out))) (Kd.R_lt (by (with_reducible repeat (first | apply Kd.R_alloc | apply Kd.R_drewN | apply Kd.R_drew)); exact HO_1687002.out))) (below_size (by repeat (first | (with_reducible first | exact HB.out | apply below_alloc | apply pw_below_drewN | apply below_drew1 | refine below_set ?_ GE1664.out | refine below_set ?_ GE1686.out) | exact HB.out))))
         have n4_ := Aside0.mk (Kd.R_lower (Kd.R_new' (Kd.R_new' (Kd.R_new' ho1 (Kd.R_lt (by (with_reducible repeat (first | apply Kd.R_alloc | apply Kd.R_drewN | apply Kd.R_drew)); exact HO_1687000.out))) (Kd.R_lt (by (with_reducible repeat (first | apply Kd.R_alloc | apply Kd.R_drewN | apply Kd.R_drew)); exact HO_1687001.out))) (Kd.R_lt (by (with_reducible repeat (first | apply Kd.R_alloc | apply Kd.R_drewN | apply Kd.R_drew)); exact HO_1687002.out))) (below_size (by repeat (first | (with_reducible first | exact HB.out | apply below_alloc | apply pw_below_drewN | apply below_drew1 | refine below_set ?_ GE1664.out | refine below_set ?_ GE1686.out) | exact HB.out))))
         have n5_ := Aside0.mk (Kd.R_lower (Kd.R_new' (Kd.R_new' (Kd.R_new' ho2 (Kd.R_lt (by (with_reducible repeat (first | apply Kd.R_alloc | apply Kd.R_drewN | apply Kd.R_drew)); exact HO_1687000.out))) (Kd.R_lt (by (with_reducible repeat (first | apply Kd.R_alloc | apply Kd.R_drewN | apply Kd.R_drew)); exact HO_1687001.out))) (Kd.R_lt (by (with_reducible repeat (first | apply Kd.R_alloc | apply Kd.R_drewN | apply Kd.R_drew)); exact HO_1687002.out))) (below_size (by repeat (first | (with_reducible first | exact HB.out | apply below_alloc | apply pw_below_drewN | apply below_drew1 | refine below_set ?_ GE1664.out | refine below_set ?_ GE1686.out) | exact HB.out))))
         have n6_ := Aside0.mk (blk_below (g := gb1664) (o := .cells #[.slice A0_0 l0_0.length c0_0, .slice A0_1 l0_1.length c0_1, .slice A0_2 l0_2.length c0_2] 39 (0, 0)) (by (with_reducible repeat (first | refine blk_drewN ?_ _ | refine blk_drew ?_ | refine blk_alloc ?_ _)); exact BK1664.out) hb)
         have n7_ := Aside0.mk (blk_below (g := gb1686) (o := .cells #[.slice Ao24 t1677.length co24, .slice Ao27 t1680.length co27, .slice Ao28 t1683.length co28] 26 (0, 0)) (by (with_reducible repeat (first | refine blk_drewN ?_ _ | refine blk_drew ?_ | refine blk_alloc ?_ _)); exact BK1686.out) hb)
         have n8_ := Aside0.mk (below_step (by repeat (first | (with_reducible first | exact HB.out | apply below_alloc | apply pw_below_drewN | apply below_drew1 | refine below_set ?_ GE1664.out | refine below_set ?_ GE1686.out) | exact HB.out)) hb)
         clear HO_1687000
         clear HO_1687001
         clear HO_1687002
         clear BK1664
         clear BK1686
         clear HB
         have HO_1687000 := n0_
         have HO_1687001 := n1_
         have HO_1687002 := n2_
         have HO1691 := n3_
         have HO1694 := n4_
         have HO1697 := n5_
         have BK1664 := n6_
         have BK1686 := n7_
         have HB := n8_
         clear n0_ n1_ n2_ n3_ n4_ n5_ n6_ n7_ n8_
         (try clear hb)
         (try clear hb2)
         (try clear hk)
         (try clear hi)
         (try clear ho0)
         (try clear ho1)
         (try clear ho2)
         obtain ⟨Ao43, co43, eo43⟩ := Kd.R_slice HO1691.out
         (first | subst eo43 | (injection eo43 with f1_ f2_ f3_; have f4_ := f1_.symm; have f5_ := f3_.symm; clear f1_ f2_ f3_; subst f4_; subst f5_))
         obtain ⟨Ao44, co44, eo44⟩ := Kd.R_slice HO1694.out
         (first | subst eo44 | (injection eo44 with f1_ f2_ f3_; have f4_ := f1_.symm; have f5_ := f3_.symm; clear f1_ f2_ f3_; subst f4_; subst f5_))
         obtain ⟨Ao45, co45, eo45⟩ := Kd.R_slice HO1697.out
         (first | subst eo45 | (injection eo45 with f1_ f2_ f3_; have f4_ := f1_.symm; have f5_ := f3_.symm; clear f1_ f2_ f3_; subst f4_; subst f5_))
         refine hK.out _ _ ⟨(blk_cell BK1686.out 0).trans rfl, (blk_cell BK1686.out 1).trans rfl, (blk_cell BK1686.out 2).trans rfl, (blk_cell BK1664.out 0).trans rfl, (blk_cell BK1664.out 1).trans rfl, (blk_cell BK1664.out 2).trans rfl⟩ (fun hHeld => ?_)
         clear hK K
         refine norm_ (a' := ?_) ?_ ?_
         rotate_left
         · show Act.put _ (some 37) _ = _
           simp only [Act.put, List.setIfInBounds_toArray, List.set_cons_zero, List.set_cons_succ, i64_w, i32_w]
           rfl
         refine one_ (i := 3) (N := some 38) #[true, true, true, true, false] rfl rfl (by kernel_rfl) (by decide) (fun K hK => ?_)
         refine goes_ Try.func24 (by kernel_rfl) rfl #[.agg #[.slice Ao24 t1677.length co24, .slice Ao27 t1680.length co27, .slice Ao28 t1683.length co28], .agg #[.slice Ao43 t1689.length co43, .slice Ao44 t1692.length co44, .slice Ao45 t1695.length co45]] (by rfl) rfl rfl (by (try simp only [List.map_toArray, List.map_cons, List.map_nil]); first | done | rfl | (simp only [List.length_drop, List.length_take]; rfl)) ?_
         with_reducible refine (laws_eqChain.calls kj10 _ _ t1677 _ _ t1680 _ _ t1683 _ _ t1689 _ _ t1692 _ _ t1695 false _ ?side1 ?side2 ?side3 ?side4 ?side5 ?side6 ?side7 ?side8 ?side9 ?side10 ?side11 ?side12 A33.out).mono ?_
         (case side1 => repeat (first | exact (Kd.R_reads' HO_1687000.out).2.2 | (with_reducible refine Kd.C_alloc ?_ _) | (with_reducible refine Kd.C_drewN ?_ _) | (with_reducible refine Kd.C_drew ?_)))
         (case side2 => exact (Kd.R_reads' HO_1687000.out).2.1)
         (case side3 => repeat (first | exact (Kd.R_reads' HO_1687001.out).2.2 | (with_reducible refine Kd.C_alloc ?_ _) | (with_reducible refine Kd.C_drewN ?_ _) | (with_reducible refine Kd.C_drew ?_)))
         (case side4 => exact (Kd.R_reads' HO_1687001.out).2.1)
         (case side5 => repeat (first | exact (Kd.R_reads' HO_1687002.out).2.2 | (with_reducible refine Kd.C_alloc ?_ _) | (with_reducible refine Kd.C_drewN ?_ _) | (with_reducible refine Kd.C_drew ?_)))
         (case side6 => exact (Kd.R_reads' HO_1687002.out).2.1)
         (case side7 => repeat (first | exact (Kd.R_reads' HO1691.out).2.2 | (with_reducible refine Kd.C_alloc ?_ _) | (with_reducible refine Kd.C_drewN ?_ _) | (with_reducible refine Kd.C_drew ?_)))
         (case side8 => exact (Kd.R_reads' HO1691.out).2.1)
         (case side9 => repeat (first | exact (Kd.R_reads' HO1694.out).2.2 | (with_reducible refine Kd.C_alloc ?_ _) | (with_reducible refine Kd.C_drewN ?_ _) | (with_reducible refine Kd.C_drew ?_)))
         (case side10 => exact (Kd.R_reads' HO1694.out).2.1)
         (case side11 => repeat (first | exact (Kd.R_reads' HO1697.out).2.2 | (with_reducible refine Kd.C_alloc ?_ _) | (with_reducible refine Kd.C_drewN ?_ _) | (with_reducible refine Kd.C_drew ?_)))
         (case side12 => exact (Kd.R_reads' HO1697.out).2.1)
         rintro e w46 ⟨rfl, hb⟩
         refine ⟨_, rfl, ?_⟩
         have n0_ := Aside0.mk (Kd.R_below (by (with_reducible repeat (first | apply Kd.R_alloc | apply Kd.R_drewN | apply Kd.R_drew)); exact HO_1687000.out) hb)
         have n1_ := Aside0.mk (Kd.R_below (by (with_reducible repeat (first | apply Kd.R_alloc | apply Kd.R_drewN | apply Kd.R_drew)); exact HO_1687001.out) hb)
         have n2_ := Aside0.mk (Kd.R_below (by (with_reducible repeat (first | apply Kd.R_alloc | apply Kd.R_drewN | apply Kd.R_drew)); exact HO_1687002.out) hb)
         have n3_ := Aside0.mk (Kd.R_below (by (with_reducible repeat (first | apply Kd.R_alloc | apply Kd.R_drewN | apply Kd.R_drew)); exact HO1691.out) hb)
         have n4_ := Aside0.mk (Kd.R_below (by (with_reducible repeat (first | apply Kd.R_alloc | apply Kd.R_drewN | apply Kd.R_drew)); exact HO1694.out) hb)
         have n5_ := Aside0.mk (Kd.R_below (by (with_reducible repeat (first | apply Kd.R_alloc | apply Kd.R_drewN | apply Kd.R_drew)); exact HO1697.out) hb)
         have n6_ := Aside0.mk (blk_below (g := gb1664) (o := .cells #[.slice A0_0 l0_0.length c0_0, .slice A0_1 l0_1.length c0_1, .slice A0_2 l0_2.length c0_2] 39 (0, 0)) (by (with_reducible repeat (first | refine blk_drewN ?_ _ | refine blk_drew ?_ | refine blk_alloc ?_ _)); exact BK1664.out) hb)
         have n7_ := Aside0.mk (blk_below (g := gb1686) (o := .cells #[.slice Ao24 t1677.length co24, .slice Ao27 t1680.length co27, .slice Ao28 t1683.length co28] 26 (0, 0)) (by (with_reducible repeat (first | refine blk_drewN ?_ _ | refine blk_drew ?_ | refine blk_alloc ?_ _)); exact BK1686.out) hb)
         have n8_ := Aside0.mk (below_step (by repeat (first | (with_reducible first | exact HB.out | apply below_alloc | apply pw_below_drewN | apply below_drew1 | refine below_set ?_ GE1664.out | refine below_set ?_ GE1686.out) | exact HB.out)) hb)
         clear HO_1687000
         clear HO_1687001
         clear HO_1687002
         clear HO1691
         clear HO1694
         clear HO1697
         clear BK1664
         clear BK1686
         clear HB
         have HO_1687000 := n0_
         have HO_1687001 := n1_
         have HO_1687002 := n2_
         have HO1691 := n3_
         have HO1694 := n4_
         have HO1697 := n5_
         have BK1664 := n6_
         have BK1686 := n7_
         have HB := n8_
         clear n0_ n1_ n2_ n3_ n4_ n5_ n6_ n7_ n8_
         (try clear hb)
         (try clear hb2)
         (try clear hk)
         (try clear hi)
         refine hK.out _ _ ⟨(blk_cell BK1686.out 0).trans rfl, (blk_cell BK1686.out 1).trans rfl, (blk_cell BK1686.out 2).trans rfl, (blk_cell BK1664.out 0).trans rfl, (blk_cell BK1664.out 1).trans rfl, (blk_cell BK1664.out 2).trans rfl⟩ (fun hHeld => ?_)
         clear hK K
         refine norm_ (a' := ?_) ?_ ?_
         rotate_left
         · show Act.put _ (some 38) _ = _
           simp only [Act.put, List.setIfInBounds_toArray, List.set_cons_zero, List.set_cons_succ, i64_w, i32_w]
           rfl
         refine pure_ (i := 4) (N := some 39) (v := ?_) (a' := ?_) #[true, true, true, true, true] rfl rfl (by kernel_rfl) (fun _ _ _ h => h) (Or.inl ⟨by rfl, ?_⟩) ?_ ?_
         rotate_left
         · intro w'
           go_simp
           with_reducible rfl
         rotate_left
         · simp only [Act.put, List.setIfInBounds_toArray, List.set_cons_zero, List.set_cons_succ, i64_w, i32_w]
           rfl
         refine done_ (by kernel_rfl) ?_
         try go_wp2
         go_ret
         exact ⟨by first | rfl | (simp [errW_none, errW_some] <;> rfl) | (simp [*, errW_none, errW_some] <;> rfl), by repeat (first | (with_reducible first | exact HB.out | apply below_alloc | apply pw_below_drewN | apply below_drew1 | refine below_set ?_ GE1664.out | refine below_set ?_ GE1686.out) | exact HB.out)⟩
end Go.Proofs.Ythlmmcmpllgflaa.P
namespace Go.Proofs.Ythlmmcmpllgflaa.P
open Go.RowKit Go.Proofs.YthlmmcmpllgflaaW.PrintWords Go.Proofs.YthlmmcmpllgflaaW.PrintLast Go.Proofs.YthlmmcmpllgflaaW.PrintMore ChainMath
theorem bestCost_law (a b c : List Int) (ha : a.length ≤ 9223372036854775807) (hb : b.length ≤ 9223372036854775807) (hc : c.length ≤ 9223372036854775807) : Ev (fun k => laws_FnExactBestChainCost.f k a b c) true := by
  unfold laws_FnExactBestChainCost.f
  obtain ⟨r, h1, h2⟩ := szChain_ev a b c ha hb hc
  refine Ev.bind (Ev.const h1) ?_
  by_cases hr : r < 0
  · exact Ev.pos hr (Ev.now _)
  · obtain ⟨l1, l2, l3⟩ := h2 (by omega)
    refine Ev.neg hr (Ev.bind (toChain_ev a b c (by omega) (by omega) (by omega)) (Ev.bind (BestChainCostS_ev a b c (by omega) (by omega) (by omega)) (Ev.bind (toChain_ev a b c (by omega) (by omega) (by omega)) (Ev.bind (sameCost_ev a b c (by omega) (by omega) (by omega)) ?_))))
    refine Ev.pos rfl (Ev.step (fun k => laws_FnExactBestChainCost.j0.eq_2 ..) ?_)
    refine Ev.neg (by simp) (Ev.bind (toChain_ev a b c (by omega) (by omega) (by omega)) (Ev.bind (eqChain_self a b c (by omega) (by omega) (by omega)) (Ev.pos rfl (Ev.now _))))
end Go.Proofs.Ythlmmcmpllgflaa.P
namespace Go.Proofs.Ythlmmcmpllgflaa.fnExactBestChainCost
open Go.ChangeShapes Go.WideShapes Go.ChangeAt Go.RowKit Go.Joins
open Go.ChangeMaps (open_string shut_string)
open Go.Proofs.YthlmmcmpllgflaaW.PrintWords
set_option linter.unusedVariables false
theorem own : ownKnob Try.prog.godebug = none := by kernel_rfl
theorem laidOut : laidOutB Try.prog = true := by kernel_rfl
def IsRow (k : IntKind) (w : World) (a : Option Addr) (len cap : Nat) (zs : List Int) : Prop :=
  (a = none ∧ len = 0 ∧ cap = 0 ∧ zs = []) ∨
  ∃ x, a = some x ∧ len ≤ cap ∧ cap ≤ maxLen ∧ zs.length = cap ∧ (∀ i, i < zs.length → w.cell? (x.add i) = some (.int k (zs.getD i 0))) ∧ ∀ n ∈ zs, (Lit.int k n).wf = true
theorem open_field {H : Type} {enc : TypeId × Value → H} {W : World} {n : Nat} {v : Value} {y : DataW H × List MemPlace}
    (h : DataW.trod enc Try.prog W 0 (fun _ => true) true n 24 [v] = some y) :
    ∃ a len cap l, v = .slice a len cap ∧ len = List.length l ∧ ReadsInt W .i64 a l.length l ∧ l.length ≤ maxLen ∧ l.length ≤ cap := by
  rcases open_ints Try.underlying24 Try.underlying3 (by kernel_rfl) h with ⟨hcs, _⟩ | ⟨x, l, c, zs, hcs, _, hl, hm, hz, _, hcell, hwz⟩
  · simp at hcs; subst hcs
    obtain ⟨l, e, h1, h2, _, h4⟩ := ReadsInt.ofRowC (k := .i64) (w := W) (a := none) (len := 0) (cap := 0) (zs := []) (.inl ⟨rfl, rfl, rfl, rfl⟩)
    exact ⟨_, _, _, l, rfl, e, h1, h2, h4⟩
  · simp at hcs; subst hcs
    obtain ⟨r, e, h1, h2, _, h4⟩ := ReadsInt.ofRowC (k := .i64) (w := W) (a := some x) (len := l) (cap := c) (zs := zs) (.inr ⟨_, rfl, hl, hm, by simpa using hz, hcell, hwz⟩)
    exact ⟨_, _, _, r, rfl, e, h1, h2, h4⟩
set_option maxRecDepth 100000 in
theorem lifted (os : Os) (started : os.Started) (H : Type) (enc : TypeId × Value → H) :
    ReturnsInHanded {} Try.checked os 4 .any (Rows.fnExactBestChainCostSpec.pre6 enc Try.prog Try.f4 Rows.fnExactBestChainCostRow.domain false) (Rows.fnExactBestChainCostSpec.post enc Try.prog Try.f4 false true false false) := by
  refine returnsInHanded_of_change_sized (C := Try.checked) own started (by kernel_rfl) Try.func4
    (ChangeSpec.witness6 (enc := enc) (C := Try.checked) false ⟨#[], #[.agg #[.slice none 0 0, .slice none 0 0, .slice none 0 0]], []⟩ 8 (by kernel_rfl) (by kernel_rfl) (by kernel_rfl) (by kernel_rfl)) ?_
  intro W base args ds gs before hval0 hW hcnd hsz0 _
  have hval : ∀ (j : Nat) t v, Try.f4.params[j]? = some t → args[j]? = some v → Value.okWide Try.prog W .any base t v := hval0
  have hW' := hW
  obtain ⟨p, q, hA0, hV, rfl, hfz, hnd⟩ := hW
  have hA : DataW.TrodAll enc Try.prog W 0 (fun _ => true) true Try.f4.params.toList args.toList ds p := hA0
  rw [Try.params4] at hA hval
  obtain ⟨v0, vs0, d0, ds0, p0, q0, hargs, rfl, rfl, h0, r0⟩ := trodAll_cons hA
  obtain ⟨rfl, rfl, rfl⟩ := trodAll_nil r0
  obtain rfl : args = #[v0] := by cases args; simp_all
  obtain ⟨rfl, rfl⟩ := trodVars_none hV
  have k0 := h0
  have lt0 : ∀ x ∈ p0, x.block < W.heap.size := by obtain ⟨m, hm⟩ := k0; exact DataW.trod_lt m _ _ _ hm
  obtain ⟨c0, c1, c2, y0, y1, y2, m, rfl, rfl, rfl, hy0, hy1, hy2⟩ := open_agg3 Try.underlying39 (by kernel_rfl) (by kernel_rfl) (hval 0 39 v0 rfl rfl) h0
  obtain ⟨a0, len0, cap0, l0, rfl, rfl, hr0, hm0, hc0⟩ := open_field hy0
  obtain ⟨a1, len1, cap1, l1, rfl, rfl, hr1, hm1, hc1⟩ := open_field hy1
  obtain ⟨a2, len2, cap2, l2, rfl, rfl, hr2, hm2, hc2⟩ := open_field hy2
  obtain ⟨k, hk⟩ := Ev.rounds (P.bestCost_law l0 l1 l2 (by simpa [maxLen] using hm0) (by simpa [maxLen] using hm1) (by simpa [maxLen] using hm2))
  clear hA0 hval0 hsz0
  refine (P.laws_FnExactBestChainCost.calls k _ _ l0 _ _ l1 _ _ l2 true W (Kd.C_of_reads (d := (0 : Int)) (h1 := fun _ => rfl) hr0) hc0 (Kd.C_of_reads (d := (0 : Int)) (h1 := fun _ => rfl) hr1) hc1 (Kd.C_of_reads (d := (0 : Int)) (h1 := fun _ => rfl) hr2) hc2 hk).mono fun e W' ⟨he, bel⟩ => ?_
  subst he
  exact ⟨_, rfl, _, _, _, [], _, [], hW', trodAll_mk1 (shut_bool Try.underlying4 _), (trodAll_cons_mk (Below.trod laidOut (by kernel_rfl) (of_decide_eq_true (by kernel_rfl)) k0 bel lt0) trodAll_mk0), rfl, bel.frame _, fun h => by cases h⟩
theorem over : Rows.fnExactBestChainCostRow.holds Try.pinned (OpenSpec.ofChange Rows.fnExactBestChainCostSpec) :=
  OpenClaim.holds_of_wide 4 Try.f4 rfl rfl rfl rfl rfl rfl rfl ⟨rfl, rfl, rfl, rfl, rfl⟩ rfl rfl rfl rfl rfl (by kernel_rfl) Try.func4 (by kernel_rfl)
    (of_decide_eq_true (by kernel_rfl)) (by unfold Func.isWrapper; first | (rw [if_pos (by decide +kernel)]; kernel_rfl) | (rw [if_neg (by decide +kernel)]; exact ⟨rfl, rfl⟩))
    (fun os started H enc _ => lifted os started H enc)
theorem proved : Rows.FnExactBestChainCostSaid := over
#print axioms proved
end Go.Proofs.Ythlmmcmpllgflaa.fnExactBestChainCost
namespace Go.Proofs.Ythlmmcmpllgflaa
theorem fnExactBestChainCost_holds : Rows.FnExactBestChainCostSaid := fnExactBestChainCost.proved
end Go.Proofs.Ythlmmcmpllgflaa
