/- The law FnExactStagewisePlan: for every chain the program and the reference make the same plan stage by stage, which leaves its arguments as they are and shares no memory; no condition. -/
import Derived.Test.YthlmmcmpllgflaaR2f
namespace Go.Proofs.Ythlmmcmpllgflaa.P
open Go.RowKit Go.Proofs.YthlmmcmpllgflaaW.PrintWords Go.Proofs.YthlmmcmpllgflaaW.PrintLast Go.Proofs.YthlmmcmpllgflaaW.PrintMore
attribute [local go_sem] max2_int min2_int max_two min_two max_three min_three max_four min_four
set_option linter.unusedVariables false
set_option linter.unusedSimpArgs false
def spec_StagewisePlan.l0 : Nat → List (List Int) → List Int → Int → List Int → List Int → List Int → Option ((List (List Int)) × Bool)
 | 0, _, _, _, _, _, _ => none
 | k + 1, x4, x5, x6, x1194000, x1194001, x1194002 => if x6 ≥ 0 then (if 0 ≤ x6 then (if x6 < (x1194001.length : Int) then (if x6 < (x1194002.length : Int) then ((spec_l7Case.f k x5 (rd x1194001 x6) (rd x1194002 x6)).bind fun bt1200 => ((spec_l2Good.f k bt1200.1 bt1200.2.1 bt1200.2.2.1 bt1200.2.2.2).bind fun t1213 => (if t1213 = true then ((spec_l2Best.f k bt1200.1 bt1200.2.1 bt1200.2.2.1 bt1200.2.2.2).bind fun t1217 => ((spec_l2From.f k bt1200.1 bt1200.2.1 bt1200.2.2.1 bt1200.2.2.2 t1217).bind fun t1220 => ((some (([t1220] : List (List Int)) : List (List Int))).bind fun y1223 => (if y1223.length + x4.length < 5864062014805 then (spec_StagewisePlan.l0 k (y1223 ++ x4) t1220 (wrap64 (x6 - 1)) x1194000 x1194001 x1194002) else (none))))) else (some ((([] : List (List Int))), false))))) else (none)) else (none)) else (none)) else (some (x4, true))
def spec_StagewisePlan.f (k : Nat) (l0_0 : List Int) (l0_1 : List Int) (l0_2 : List Int) : Option ((List (List Int)) × Bool) := (some (([] : List (List Int)) : List (List Int))).bind fun y1194 => ((spec_l7Good.f k l0_0 l0_1 l0_2).bind fun t1197 => (if t1197 = true then (spec_StagewisePlan.l0 k y1194 l0_0 (wrap64 ((l0_1.length : Int) - 1)) l0_0 l0_1 l0_2) else (some (y1194, false))))
def spec_StagewisePlan.T8 : Bool × List (List Nat × List Nat) := (true, [([], []), ([], []), ([1], [1]), ([], []), ([2, 3], [2, 3]), ([4], [4]), ([], []), ([6], [6]), ([], []), ([7, 8], [7, 8]), ([9], [9]), ([0, 5, 10], [0, 5, 10]), ([], []), ([12, 11, 11, 0, 1, 2, 3, 4, 5, 6, 7, 8, 9, 10, 11, 12], [11, 12])])
def spec_StagewisePlan.B8 : List Nat := [0, 0, 2, 0, 14, 30, 0, 64, 0, 448, 960, 2047, 0, 8191]
theorem spec_StagewisePlan.tab8 : rtab .any (opsOf Try.f18 8) = spec_StagewisePlan.T8 := by kernel_rfl
theorem spec_StagewisePlan.bits8 : waitsOk spec_StagewisePlan.T8.2 spec_StagewisePlan.B8 = true := by kernel_rfl
set_option maxHeartbeats 8000000 in
set_option maxRecDepth 100000 in
theorem spec_StagewisePlan.calls (k : Nat) (P0_0_ : Nat → Prop) (A0_0 : Option Addr) (c0_0 : Nat) (l0_0 : List Int) (A0_1 : Option Addr) (c0_1 : Nat) (l0_1 : List Int) (A0_2 : Option Addr) (c0_2 : Nat) (l0_2 : List Int) (r1 : List (List Int)) (r2 : Bool) (w : World) (hs0_0 : Kd.V (Kd.int .i64) 3 w w.heap.size (fun k_ => P0_0_ k_) (.slice A0_0 l0_0.length c0_0) l0_0) (hr0_1 : Kd.C (Kd.int .i64) w A0_1 l0_1.length l0_1) (hc0_1 : l0_1.length ≤ c0_1) (hr0_2 : Kd.C (Kd.int .i64) w A0_2 l0_2.length l0_2) (hc0_2 : l0_2.length ≤ c0_2) (h : spec_StagewisePlan.f k l0_0 l0_1 l0_2 = some (r1, r2)) :
 Calls Try.prog 18 #[.agg #[.slice A0_0 l0_0.length c0_0, .slice A0_1 l0_1.length c0_1, .slice A0_2 l0_2.length c0_2]] w fun e w' => ∃ v0_ : Value, e = .returned (.tuple #[v0_, .bool r2]) ∧ Kd.N (Kd.slice 3 (Kd.int .i64)) 24 w' w.heap.size (fun k_ => (P0_0_ k_ ∨ w.heap.size ≤ k_)) v0_ r1 ∧ Below w.heap.size w w' := by
 have hu26 := Try.underlying26
 have hu49 := Try.underlying49
 have HO0_0 := Aside0.mk (show Kd.V (Kd.int .i64) 3 w w.heap.size (fun k_ => (P0_0_ k_ ∨ w.heap.size ≤ k_)) (.slice A0_0 l0_0.length c0_0) l0_0 from Kd.V_mono hs0_0 (fun k_ hk => .inl hk))
 have HR0_1 := Aside0.mk hr0_1
 have HC0_1 := Aside0.mk hc0_1
 clear hr0_1 hc0_1
 have HR0_2 := Aside0.mk hr0_2
 have HC0_2 := Aside0.mk hc0_2
 clear hr0_2 hc0_2
 have HB := Aside0.mk (Below.refl w.heap.size w)
 have H : ((some (([] : List (List Int)) : List (List Int))).bind fun y1194 => ((spec_l7Good.f k l0_0 l0_1 l0_2).bind fun t1197 => (if t1197 = true then (spec_StagewisePlan.l0 k y1194 l0_0 (wrap64 ((l0_1.length : Int) - 1)) l0_0 l0_1 l0_2) else (some (y1194, false))))) = some (r1, r2) := h
 clear h
 obtain ⟨y1194, hy1194⟩ : ∃ y_ : List (List Int), y_ = (([] : List (List Int))) := ⟨_, rfl⟩
 replace H : ((spec_l7Good.f k l0_0 l0_1 l0_2).bind fun t1197 => (if t1197 = true then (spec_StagewisePlan.l0 k y1194 l0_0 (wrap64 ((l0_1.length : Int) - 1)) l0_0 l0_1 l0_2) else (some (y1194, false)))) = some (r1, r2) := by first | (rw [hy1194]; with_reducible exact H) | (have H2_ := (Option.bind_some _ _).symm.trans H; rw [hy1194]; with_reducible exact H2_) | (have H2_ := (Option.bind_some _ _).symm.trans H; with_reducible exact H2_) | with_reducible exact H | (rw [hy1194]; exact H) | exact H
 have Ny1194 := Aside0.mk hy1194
 clear hy1194
 replace H := Option.bind_eq_some_iff.mp H
 obtain ⟨t1197, A20, H⟩ := H
 replace H : (if t1197 = true then (spec_StagewisePlan.l0 k y1194 l0_0 (wrap64 ((l0_1.length : Int) - 1)) l0_0 l0_1 l0_2) else (some (y1194, false))) = some (r1, r2) := H
 have A2 := Aside0.mk A20
 clear A20
 by_cases c3 : t1197 = true
 · subst c3
   have H1 : (spec_StagewisePlan.l0 k y1194 l0_0 (wrap64 ((l0_1.length : Int) - 1)) l0_0 l0_1 l0_2) = some (r1, r2) := by rw [if_pos rfl] at H; exact H
   clear H
   have H := H1
   clear H1
   have H' := Aside0.mk H
   clear H
   go_enter Try.func18, Try.ntmps18
   go_wp2_with (first | ((with_reducible refine gate_dst (N := 1) rfl ?_); refine box_event ?hg (N := 1) ?hd (cs := #[.slice A0_0 l0_0.length c0_0, .slice A0_1 l0_1.length c0_1, .slice A0_2 l0_2.length c0_2]) (t := 26) ?hr ?_; (case hd => rfl); (case hg => rfl); (case hr => first | (go_simp; done) | (go_simp; rfl)); intro gb1193 hg w4 hbox hb; have n0_ := Aside0.mk (Kd.V_below (Kd.V_elderB (zV HO0_0.out) gb1193 (Nat.le_of_eq hg.symm)) hb); have n1_ := Aside0.mk (below_step zH0 hb); have n2_ := Aside0.mk (hbox); have n3_ := Aside0.mk ((z6 : w.heap.size ≤ gb1193)); have n4_ := Aside0.mk ((z6 : w.heap.size ≤ gb1193)); clear HO0_0; clear HB; have HO0_0 := n0_; have HB := n1_; have BK1193 := n2_; have GW1193 := n3_; have GE1193 := n4_; clear n0_ n1_ n2_ n3_ n4_; clear hb hbox hg) | ((with_reducible refine gate_dst (N := 8) rfl ?_); refine Kd.N_lit (Kd.slice 3 (Kd.int .i64)) _ 24 ?hg (N' := 8) ?hd (xs := ([] : List (List Int))) (inner := []) (ok := (fun k_ => (P0_0_ k_ ∨ w.heap.size ≤ k_) ∧ k_ ≠ gb1193)) (okp := (fun k_ => (P0_0_ k_ ∨ w.heap.size ≤ k_) ∧ k_ ≠ gb1193)) ?hr ?hp (fun _ hk => hk) ((show ∀ k_, w4.heap.size ≤ k_ → (fun k_ => (P0_0_ k_ ∨ w.heap.size ≤ k_) ∧ k_ ≠ gb1193) k_ from fun k_ hk => ⟨(.inr (Nat.le_trans (below_size (zH1 GE1193.out)) hk)), Kd.freshB (g := gb1193) (o := .cells #[.slice A0_0 l0_0.length c0_0, .slice A0_1 l0_1.length c0_1, .slice A0_2 l0_2.length c0_2] 26 (0, 0)) (zB BK1193.out) k_ hk⟩) _ (Nat.le_refl _)) (Below.refl _ _) (Nat.le_refl _) (by simp) ?_; (case hd => rfl); (case hg => rfl); (case hr => first | (go_simp; done) | (go_simp; rfl)); (case hp => exact (Reps.none _ _)); intro v1195 w5 ho6 hb hg_ hnew_; clear hg_ hnew_; (first | rw [← Ny1194.out] at ho6 | (simp only [Int.reduceToNat] at ho6; rw [← Ny1194.out] at ho6)); have n0_ := Aside0.mk (Kd.V_elder' (zV HO0_0.out) (Kd.N_base ho6) hb); have n1_ := Aside0.mk (Kd.N_lower ho6 (below_size (zH1 GE1193.out))); have n2_ := Aside0.mk (blk_below (g := gb1193) (o := .cells #[.slice A0_0 l0_0.length c0_0, .slice A0_1 l0_1.length c0_1, .slice A0_2 l0_2.length c0_2] 26 (0, 0)) (zB BK1193.out) hb); have n3_ := Aside0.mk (below_step (zH1 GE1193.out) hb); clear HO0_0; clear BK1193; clear HB; have HO0_0 := n0_; have HO1196 := n1_; have BK1193 := n2_; have HB := n3_; clear n0_ n1_ n2_ n3_; clear hb ho6; have hcz7_0 : w5.cell? ⟨gb1193, 0, none⟩ = some (.slice A0_0 l0_0.length c0_0) := (blk_cell BK1193.out 0).trans rfl; have hcz7_1 : w5.cell? ⟨gb1193, 1, none⟩ = some (.slice A0_1 l0_1.length c0_1) := (blk_cell BK1193.out 1).trans rfl; have hcz7_2 : w5.cell? ⟨gb1193, 2, none⟩ = some (.slice A0_2 l0_2.length c0_2) := (blk_cell BK1193.out 2).trans rfl; have hfz7_0 := blk_frozen BK1193.out 0; have hfz7_1 := blk_frozen BK1193.out 1; have hfz7_2 := blk_frozen BK1193.out 2) | ((with_reducible refine gate_callee (f := 61) rfl ?_); refine goesL_ (some 10) rfl rfl Try.func61 (by kernel_rfl) rfl #[.agg #[.slice A0_0 l0_0.length c0_0, .slice A0_1 l0_1.length c0_1, .slice A0_2 l0_2.length c0_2]] rfl z1 ?_; (with_reducible refine (spec_l7Good.calls k _ _ l0_0 _ _ l0_1 _ _ l0_2 true _ ?side1 ?side2 ?side3 ?side4 ?side5 ?side6 A2.out).mono ?_); (case side1 => exact zC (Kd.V_reads' HO0_0.out).2.2); (case side2 => exact (Kd.V_reads' HO0_0.out).2.1); (case side3 => exact zC (Kd.C_below HR0_1.out HB.out)); (case side4 => exact HC0_1.out); (case side5 => exact zC (Kd.C_below HR0_2.out HB.out)); (case side6 => exact HC0_2.out); rintro e w8 ⟨rfl, hb⟩; refine ⟨_, rfl, ?_⟩; have n0_ := Aside0.mk (Kd.V_below (zV HO0_0.out) hb); have n1_ := Aside0.mk (Kd.N_below (zN HO1196.out) hb); have n2_ := Aside0.mk (blk_below (g := gb1193) (o := .cells #[.slice A0_0 l0_0.length c0_0, .slice A0_1 l0_1.length c0_1, .slice A0_2 l0_2.length c0_2] 26 (0, 0)) (zB BK1193.out) hb); have n3_ := Aside0.mk (below_step (zH1 GE1193.out) hb); clear HO0_0; clear HO1196; clear BK1193; clear HB; have HO0_0 := n0_; have HO1196 := n1_; have BK1193 := n2_; have HB := n3_; clear n0_ n1_ n2_ n3_; (try clear hb); (try clear hb2); (try clear hk); (try clear hi); have hcz9_0 : w8.cell? ⟨gb1193, 0, none⟩ = some (.slice A0_0 l0_0.length c0_0) := (blk_cell BK1193.out 0).trans rfl; have hcz9_1 : w8.cell? ⟨gb1193, 1, none⟩ = some (.slice A0_1 l0_1.length c0_1) := (blk_cell BK1193.out 1).trans rfl; have hcz9_2 : w8.cell? ⟨gb1193, 2, none⟩ = some (.slice A0_2 l0_2.length c0_2) := (blk_cell BK1193.out 2).trans rfl; have hfz9_0 := blk_frozen BK1193.out 0; have hfz9_1 := blk_frozen BK1193.out 1; have hfz9_2 := blk_frozen BK1193.out 2))
   go_loopg [4, 5, 6] k (fun kq v4 v5 v6 w' => ∃ (x4_1 : List (List Int)) (x5_1 : List Int) (x6_1 : Int), v6 = .int .i64 x6_1 ∧ Aside0 (spec_StagewisePlan.l0 kq x4_1 x5_1 x6_1 l0_0 l0_1 l0_2 = some (r1, r2)) ∧ Aside0 (kq ≤ k) ∧ Aside0 (Kd.N (Kd.slice 3 (Kd.int .i64)) 24 w' w.heap.size (fun k_ => (P0_0_ k_ ∨ w.heap.size ≤ k_) ∧ k_ ≠ gb1193) v4 x4_1) ∧ Aside0 (Kd.V (Kd.int .i64) 3 w' w.heap.size (fun k_ => (P0_0_ k_ ∨ w.heap.size ≤ k_) ∧ some k_ ≠ (v4 : Value).ownBlock ∧ k_ ≠ gb1193) v5 x5_1) ∧ Aside0 (Kd.V (Kd.int .i64) 3 w' w.heap.size (fun k_ => (P0_0_ k_ ∨ w.heap.size ≤ k_) ∧ some k_ ≠ (v4 : Value).ownBlock ∧ k_ ≠ gb1193) (.slice A0_0 l0_0.length c0_0) l0_0) ∧ Aside0 (w'.heap[gb1193]? = some (.cells #[(.slice A0_0 l0_0.length c0_0), (.slice A0_1 l0_1.length c0_1), (.slice A0_2 l0_2.length c0_2)] 26 (0, 0))) ∧ Aside0 (Below w.heap.size w w'))
   case atStart => exact ⟨(y1194), (l0_0), (wrap64 ((l0_1.length : Int) - 1)), z3, H', ⟨Nat.le_refl _⟩, ⟨by (with_reducible repeat (first | apply Kd.N_alloc | apply Kd.N_drewN | apply Kd.N_drew)); exact HO1196.out⟩, ⟨by (with_reducible repeat (first | apply Kd.V_alloc | apply Kd.V_drewN | apply Kd.V_drew)); exact Kd.V_mono HO0_0.out (fun _ hk => ⟨hk.1.1, ⟨hk.2, hk.1.2⟩⟩)⟩, ⟨by (with_reducible repeat (first | apply Kd.V_alloc | apply Kd.V_drewN | apply Kd.V_drew)); exact Kd.V_mono HO0_0.out (fun _ hk => ⟨hk.1.1, ⟨hk.2, hk.1.2⟩⟩)⟩, ⟨by (with_reducible repeat (first | refine blk_drewN ?_ _ | refine blk_drew ?_ | refine blk_alloc ?_ _)); exact BK1193.out⟩, ⟨by repeat (first | (with_reducible first | exact HB.out | apply below_alloc | apply pw_below_drewN | apply below_drew1 | refine below_set ?_ GE1193.out) | exact HB.out)⟩⟩
   case round =>
    clear H'
    try clear c1
    try clear p2
    try clear c3
    try clear c6
    try clear p6
    try clear hcz7_0
    try clear hcz7_1
    try clear hcz7_2
    try clear hcz9_0
    try clear hcz9_1
    try clear hcz9_2
    try clear hfz7_0
    try clear hfz7_1
    try clear hfz7_2
    try clear hfz9_0
    try clear hfz9_1
    try clear hfz9_2
    obtain ⟨x4_1, x5_1, x6_1, rfl, HA, HK1, HO_4, HO_5, HO_1194000, BK1193, HB⟩ := hrel
    cases gk with
    | zero => exact absurd HA.out (by simp [spec_StagewisePlan.l0])
    | succ k1 =>
     have H := HA.out
     clear HA
     simp only [spec_StagewisePlan.l0] at H
     by_cases c10 : x6_1 ≥ 0
     · rw [if_pos c10] at H
       have c10b0 : decide (0 ≤ x6_1) = true := decide_eq_true c10
       clear c10
       by_cases c11 : 0 ≤ x6_1
       · rw [if_pos c11] at H
         have c11b0 : decide (0 ≤ x6_1) = true := decide_eq_true c11
         clear c11
         by_cases c12 : x6_1 < (l0_1.length : Int)
         · rw [if_pos c12] at H
           have c12b0 : decide (x6_1 < (l0_1.length : Int)) = true := decide_eq_true c12
           clear c12
           by_cases c13 : x6_1 < (l0_2.length : Int)
           · rw [if_pos c13] at H
             have c13b0 : decide (x6_1 < (l0_2.length : Int)) = true := decide_eq_true c13
             clear c13
             replace H := Option.bind_eq_some_iff.mp H
             obtain ⟨⟨t1200, t1203, t1206, t1209⟩, A140, H⟩ := H
             replace H : ((spec_l2Good.f k1 t1200 t1203 t1206 t1209).bind fun t1213 => (if t1213 = true then ((spec_l2Best.f k1 t1200 t1203 t1206 t1209).bind fun t1217 => ((spec_l2From.f k1 t1200 t1203 t1206 t1209 t1217).bind fun t1220 => ((some (([t1220] : List (List Int)) : List (List Int))).bind fun y1223 => (if y1223.length + x4_1.length < 5864062014805 then (spec_StagewisePlan.l0 k1 (y1223 ++ x4_1) t1220 (wrap64 (x6_1 - 1)) l0_0 l0_1 l0_2) else (none))))) else (some ((([] : List (List Int))), false)))) = some (r1, r2) := H
             have A14 := Aside0.mk A140
             clear A140
             replace H := Option.bind_eq_some_iff.mp H
             obtain ⟨t1213, A150, H⟩ := H
             replace H : (if t1213 = true then ((spec_l2Best.f k1 t1200 t1203 t1206 t1209).bind fun t1217 => ((spec_l2From.f k1 t1200 t1203 t1206 t1209 t1217).bind fun t1220 => ((some (([t1220] : List (List Int)) : List (List Int))).bind fun y1223 => (if y1223.length + x4_1.length < 5864062014805 then (spec_StagewisePlan.l0 k1 (y1223 ++ x4_1) t1220 (wrap64 (x6_1 - 1)) l0_0 l0_1 l0_2) else (none))))) else (some ((([] : List (List Int))), false))) = some (r1, r2) := H
             have A15 := Aside0.mk A150
             clear A150
             by_cases c16 : t1213 = true
             · subst c16
               have H1 : ((spec_l2Best.f k1 t1200 t1203 t1206 t1209).bind fun t1217 => ((spec_l2From.f k1 t1200 t1203 t1206 t1209 t1217).bind fun t1220 => ((some (([t1220] : List (List Int)) : List (List Int))).bind fun y1223 => (if y1223.length + x4_1.length < 5864062014805 then (spec_StagewisePlan.l0 k1 (y1223 ++ x4_1) t1220 (wrap64 (x6_1 - 1)) l0_0 l0_1 l0_2) else (none))))) = some (r1, r2) := by rw [if_pos rfl] at H; exact H
               clear H
               have H := H1
               clear H1
               replace H := Option.bind_eq_some_iff.mp H
               obtain ⟨t1217, A170, H⟩ := H
               replace H : ((spec_l2From.f k1 t1200 t1203 t1206 t1209 t1217).bind fun t1220 => ((some (([t1220] : List (List Int)) : List (List Int))).bind fun y1223 => (if y1223.length + x4_1.length < 5864062014805 then (spec_StagewisePlan.l0 k1 (y1223 ++ x4_1) t1220 (wrap64 (x6_1 - 1)) l0_0 l0_1 l0_2) else (none)))) = some (r1, r2) := H
               have A17 := Aside0.mk A170
               clear A170
               replace H := Option.bind_eq_some_iff.mp H
               obtain ⟨t1220, A180, H⟩ := H
               replace H : ((some (([t1220] : List (List Int)) : List (List Int))).bind fun y1223 => (if y1223.length + x4_1.length < 5864062014805 then (spec_StagewisePlan.l0 k1 (y1223 ++ x4_1) t1220 (wrap64 (x6_1 - 1)) l0_0 l0_1 l0_2) else (none))) = some (r1, r2) := H
               have A18 := Aside0.mk A180
               clear A180
               obtain ⟨y1223, hy1223⟩ : ∃ y_ : List (List Int), y_ = (([t1220] : List (List Int))) := ⟨_, rfl⟩
               replace H : (if y1223.length + x4_1.length < 5864062014805 then (spec_StagewisePlan.l0 k1 (y1223 ++ x4_1) t1220 (wrap64 (x6_1 - 1)) l0_0 l0_1 l0_2) else (none)) = some (r1, r2) := by first | (rw [hy1223]; with_reducible exact H) | (have H2_ := (Option.bind_some _ _).symm.trans H; rw [hy1223]; with_reducible exact H2_) | (have H2_ := (Option.bind_some _ _).symm.trans H; with_reducible exact H2_) | with_reducible exact H | (rw [hy1223]; exact H) | exact H
               have Ny1223 := Aside0.mk hy1223
               clear hy1223
               by_cases c19 : y1223.length + x4_1.length < 5864062014805
               · rw [if_pos c19] at H
                 have LMc19 := Aside0.mk c19
                 clear c19
                 obtain ⟨y1226, hy1226⟩ : ∃ y_ : List (List Int), y_ = (y1223 ++ x4_1) := ⟨_, rfl⟩
                 replace H : (spec_StagewisePlan.l0 k1 y1226 t1220 (wrap64 (x6_1 - 1)) l0_0 l0_1 l0_2) = some (r1, r2) := by first | (rw [hy1226]; with_reducible exact H) | (have H2_ := (Option.bind_some _ _).symm.trans H; rw [hy1226]; with_reducible exact H2_) | (have H2_ := (Option.bind_some _ _).symm.trans H; with_reducible exact H2_) | with_reducible exact H | (rw [hy1226]; exact H) | exact H
                 have Ny1226 := Aside0.mk hy1226
                 clear hy1226
                 have H' := Aside0.mk H
                 clear H
                 obtain ⟨Ao20, co20, eo20⟩ := Kd.V_slice HO_5.out
                 subst eo20
                 try go_wp2
                 have n0_ := Aside0.mk (Kd.N_drew HO_4.out)
                 have n1_ := Aside0.mk (Kd.V_drew HO_5.out)
                 have n2_ := Aside0.mk (Kd.V_drew HO_1194000.out)
                 have n3_ := Aside0.mk (blk_drew BK1193.out)
                 have n4_ := Aside0.mk (below_drew1 HB.out)
                 clear HO_4
                 clear HO_5
                 clear HO_1194000
                 clear BK1193
                 clear HB
                 have HO_4 := n0_
                 have HO_5 := n1_
                 have HO_1194000 := n2_
                 have BK1193 := n3_
                 have HB := n4_
                 clear n0_ n1_ n2_ n3_ n4_
                 have p1198 : 0 ≤ (x6_1 : Int) := of_decide_eq_true z2
                 have q1198 : x6_1 < (l0_1.length : Int) := of_decide_eq_true z2
                 obtain ⟨ad1198, e1198, hx1198_0⟩ := Kd.at_int HR0_1.out x6_1 p1198 q1198
                 have hw1198_0 := hx1198_0
                 cases e1198
                 replace hx1198_0 := (HB.out.cell (World.block_lt_of_cell? w _ hx1198_0)).trans hx1198_0
                 replace p1198 := eq_true p1198
                 replace q1198 := eq_true q1198
                 have p1199 : 0 ≤ (x6_1 : Int) := of_decide_eq_true z2
                 have q1199 : x6_1 < (l0_2.length : Int) := of_decide_eq_true z2
                 obtain ⟨ad1199, e1199, hx1199_0⟩ := Kd.at_int HR0_2.out x6_1 p1199 q1199
                 have hw1199_0 := hx1199_0
                 cases e1199
                 replace hx1199_0 := (HB.out.cell (World.block_lt_of_cell? w _ hx1199_0)).trans hx1199_0
                 replace p1199 := eq_true p1199
                 replace q1199 := eq_true q1199
                 refine start_ (n := 14) (S := fun w' => w'.cell? ⟨gb1193, 0, none⟩ = some (.slice A0_0 l0_0.length c0_0) ∧ w'.cell? ⟨gb1193, 1, none⟩ = some (.slice (some ad1198) l0_1.length c0_1) ∧ w'.cell? ⟨gb1193, 2, none⟩ = some (.slice (some ad1199) l0_2.length c0_2) ∧ w'.cell? (ad1198.add (x6_1).toNat) = some (.int .i64 (rd l0_1 x6_1)) ∧ w'.cell? (ad1199.add (x6_1).toNat) = some (.int .i64 (rd l0_2 x6_1))) (ds := []) #[false, false, false, false, false, false, false, false, false, false, false, false, false, false] (by kernel_rfl) rfl rfl ⟨(blk_cell BK1193.out 0).trans rfl, (blk_cell BK1193.out 1).trans rfl, (blk_cell BK1193.out 2).trans rfl, ((HB.out.cell (World.block_lt_of_cell? w _ hw1198_0)).trans hw1198_0), ((HB.out.cell (World.block_lt_of_cell? w _ hw1199_0)).trans hw1199_0)⟩ (fun hHeld => ?_); refine with_tabW spec_StagewisePlan.tab8 spec_StagewisePlan.bits8 (fun HT_ HW_ => ?_)
                 generalize wr.drew = w21 at HO_4 HO_5 HO_1194000 BK1193 HB hx1198_0 hx1199_0 hHeld ⊢
                 refine zP (i := 0) (N := some 23) #[true, false, false, false, false, false, false, false, false, false, false, false, false, false] (any_of HT_.out (by kernel_rfl)) ?_
                 refine zP (i := 1) (N := some 24) #[true, true, false, false, false, false, false, false, false, false, false, false, false, false] (any_of HT_.out (by kernel_rfl)) ?_
                 refine zP (i := 3) (N := some 26) #[true, true, false, true, false, false, false, false, false, false, false, false, false, false] (any_of HT_.out (by kernel_rfl)) ?_
                 refine zP (i := 6) (N := some 29) #[true, true, false, true, false, false, true, false, false, false, false, false, false, false] (any_of HT_.out (by kernel_rfl)) ?_
                 refine zP (i := 8) (N := some 31) #[true, true, false, true, false, false, true, false, true, false, false, false, false, false] (any_of HT_.out (by kernel_rfl)) ?_
                 refine take_ (i := 2) (N := some 25) (v := ?_) (a' := ?_) #[true, true, true, true, false, false, true, false, true, false, false, false, false, false] rfl rfl (take_ofW HT_.out HW_.out (by kernel_rfl)) (fun _ _ _ h => h) (Or.inl ⟨by rfl, ?_⟩) hHeld ?_ ?_
                 rotate_left
                 · rintro w' ⟨s0, s1, s2, s3, s4⟩
                   go_simp
                   with_reducible rfl
                 rotate_left
                 · simp only [Act.put, List.setIfInBounds_toArray, List.set_cons_zero, List.set_cons_succ, i64_w, i32_w]
                   rfl
                 refine zP (i := 4) (N := some 27) #[true, true, true, true, true, false, true, false, true, false, false, false, false, false] (any_of HT_.out (by kernel_rfl)) ?_
                 refine take_ (i := 5) (N := some 28) (v := ?_) (a' := ?_) #[true, true, true, true, true, true, true, false, true, false, false, false, false, false] rfl rfl (take_ofW HT_.out HW_.out (by kernel_rfl)) (fun _ _ _ h => h) (Or.inl ⟨by rfl, ?_⟩) hHeld ?_ ?_
                 rotate_left
                 · rintro w' ⟨s0, s1, s2, s3, s4⟩
                   go_simp
                   with_reducible rfl
                 rotate_left
                 · simp only [Act.put, List.setIfInBounds_toArray, List.set_cons_zero, List.set_cons_succ, i64_w, i32_w]
                   rfl
                 refine take_ (i := 7) (N := some 30) (v := ?_) (a' := ?_) #[true, true, true, true, true, true, true, true, true, false, false, false, false, false] rfl rfl (take_ofW HT_.out HW_.out (by kernel_rfl)) (fun _ _ _ h => h) (Or.inl ⟨by rfl, ?_⟩) hHeld ?_ ?_
                 rotate_left
                 · rintro w' ⟨s0, s1, s2, s3, s4⟩
                   go_simp
                   with_reducible rfl
                 rotate_left
                 · simp only [Act.put, List.setIfInBounds_toArray, List.set_cons_zero, List.set_cons_succ, i64_w, i32_w]
                   rfl
                 refine zP (i := 9) (N := some 32) #[true, true, true, true, true, true, true, true, true, true, false, false, false, false] (any_of HT_.out (by kernel_rfl)) ?_
                 refine take_ (i := 10) (N := some 33) (v := ?_) (a' := ?_) #[true, true, true, true, true, true, true, true, true, true, true, false, false, false] rfl rfl (take_ofW HT_.out HW_.out (by kernel_rfl)) (fun _ _ _ h => h) (Or.inl ⟨by rfl, ?_⟩) hHeld ?_ ?_
                 rotate_left
                 · rintro w' ⟨s0, s1, s2, s3, s4⟩
                   go_simp
                   with_reducible rfl
                 rotate_left
                 · simp only [Act.put, List.setIfInBounds_toArray, List.set_cons_zero, List.set_cons_succ, i64_w, i32_w]
                   rfl
                 refine join_ (σ := Value × Value × Value × Value × Nat) 1 #[true, true, true, true, true, true, true, true, true, true, true, true, true, false] (fun s_ => [(34, .agg #[s_.1, s_.2.1, s_.2.2.1, s_.2.2.2.1]), (7, .pointer (some ⟨s_.2.2.2.2, 0, none⟩))]) (fun s_ w' => (w'.cell? ⟨gb1193, 0, none⟩ = some (.slice A0_0 l0_0.length c0_0) ∧ w'.cell? ⟨gb1193, 1, none⟩ = some (.slice (some ad1198) l0_1.length c0_1) ∧ w'.cell? ⟨gb1193, 2, none⟩ = some (.slice (some ad1199) l0_2.length c0_2) ∧ w'.cell? (ad1198.add (x6_1).toNat) = some (.int .i64 (rd l0_1 x6_1)) ∧ w'.cell? (ad1199.add (x6_1).toNat) = some (.int .i64 (rd l0_2 x6_1))) ∧ (Kd.R (Kd.int .i64) 3 w' w.heap.size (fun k_ => (w.heap.size ≤ k_) ∧ some k_ ≠ (s_.2.1 : Value).ownBlock ∧ some k_ ≠ (s_.2.2.1 : Value).ownBlock ∧ some k_ ≠ (s_.2.2.2.1 : Value).ownBlock) s_.1 t1200) ∧ (Kd.R (Kd.int .i64) 3 w' w.heap.size (fun k_ => (w.heap.size ≤ k_) ∧ some k_ ≠ (s_.1 : Value).ownBlock ∧ some k_ ≠ (s_.2.2.1 : Value).ownBlock ∧ some k_ ≠ (s_.2.2.2.1 : Value).ownBlock) s_.2.1 t1203) ∧ (Kd.R (Kd.int .i64) 3 w' w.heap.size (fun k_ => (w.heap.size ≤ k_) ∧ some k_ ≠ (s_.1 : Value).ownBlock ∧ some k_ ≠ (s_.2.1 : Value).ownBlock ∧ some k_ ≠ (s_.2.2.2.1 : Value).ownBlock) s_.2.2.1 t1206) ∧ (Kd.R (Kd.int .i64) 3 w' w.heap.size (fun k_ => (w.heap.size ≤ k_) ∧ some k_ ≠ (s_.1 : Value).ownBlock ∧ some k_ ≠ (s_.2.1 : Value).ownBlock ∧ some k_ ≠ (s_.2.2.1 : Value).ownBlock) s_.2.2.2.1 t1209) ∧ (Kd.V (Kd.int .i64) 3 w' w.heap.size (fun k_ => (P0_0_ k_ ∨ w.heap.size ≤ k_) ∧ some k_ ≠ (s_.1 : Value).ownBlock ∧ some k_ ≠ (s_.2.1 : Value).ownBlock ∧ some k_ ≠ (s_.2.2.1 : Value).ownBlock ∧ some k_ ≠ (s_.2.2.2.1 : Value).ownBlock ∧ some k_ ≠ (u4 : Value).ownBlock ∧ k_ ≠ gb1193 ∧ k_ ≠ s_.2.2.2.2) (.slice A0_0 l0_0.length c0_0) l0_0) ∧ (Kd.N (Kd.slice 3 (Kd.int .i64)) 24 w' w.heap.size (fun k_ => (P0_0_ k_ ∨ w.heap.size ≤ k_) ∧ some k_ ≠ (s_.1 : Value).ownBlock ∧ some k_ ≠ (s_.2.1 : Value).ownBlock ∧ some k_ ≠ (s_.2.2.1 : Value).ownBlock ∧ some k_ ≠ (s_.2.2.2.1 : Value).ownBlock ∧ k_ ≠ gb1193 ∧ k_ ≠ s_.2.2.2.2) u4 x4_1) ∧ (Kd.V (Kd.int .i64) 3 w' w.heap.size (fun k_ => (P0_0_ k_ ∨ w.heap.size ≤ k_) ∧ some k_ ≠ (s_.1 : Value).ownBlock ∧ some k_ ≠ (s_.2.1 : Value).ownBlock ∧ some k_ ≠ (s_.2.2.1 : Value).ownBlock ∧ some k_ ≠ (s_.2.2.2.1 : Value).ownBlock ∧ some k_ ≠ (u4 : Value).ownBlock ∧ k_ ≠ gb1193 ∧ k_ ≠ s_.2.2.2.2) (.slice Ao20 x5_1.length co20) x5_1) ∧ (w'.heap[gb1193]? = some (.cells #[.slice A0_0 l0_0.length c0_0, .slice (some ad1198) l0_1.length c0_1, .slice (some ad1199) l0_2.length c0_2] 26 (0, 0))) ∧ (w'.heap[s_.2.2.2.2]? = some (.cells #[.slice none 0 0, .slice none 0 0, .slice none 0 0, .slice none 0 0] 49 (0, 0))) ∧ (w.heap.size ≤ s_.2.2.2.2) ∧ (w.heap.size ≤ s_.2.2.2.2) ∧ (gb1193 ≠ s_.2.2.2.2) ∧ (s_.2.2.2.2 ≠ gb1193) ∧ (Below w.heap.size w w')) ?_ ?_
                 rotate_left
                 · intro hCont
                   refine two_ (i := 11) (j := 12) (Ni := some 34) (Nj := some 7) #[true, true, true, true, true, true, true, true, true, true, true, true, false, false] #[true, true, true, true, true, true, true, true, true, true, true, false, true, false] rfl rfl rfl rfl (two_of HT_.out (by kernel_rfl)) (by decide) (by decide) (fun K hK => ?_) (fun K hK => ?_)
                   · skip
                     refine goes_ Try.func72 (by kernel_rfl) rfl #[.slice Ao20 x5_1.length co20, .int .i64 (rd l0_1 x6_1), .int .i64 (rd l0_2 x6_1)] (by rfl) rfl rfl z1 ?_
                     with_reducible refine (spec_l7Case.calls k1 _ _ x5_1 (rd l0_1 x6_1) (rd l0_2 x6_1) t1200 t1203 t1206 t1209 _ ?side1 ?side2 A14.out).mono ?_
                     (case side1 => exact zC (Kd.V_reads' HO_5.out).2.2)
                     (case side2 => exact (Kd.V_reads' HO_5.out).2.1)
                     rintro e w22 ⟨v1201, v1204, v1207, v1210, rfl, ho0, ho1, ho2, ho3, hb⟩
                     refine ⟨_, rfl, ?_⟩
                     have n0_ := Aside0.mk (Kd.N_mono (Kd.N_told (Kd.N_told (Kd.N_told (Kd.N_told (Kd.N_old (zN HO_4.out) hb) (Kd.R_base ho0)) (Kd.R_base ho1)) (Kd.R_base ho2)) (Kd.R_base ho3)) (fun _ h_ => h_.1))
                     have n1_ := Aside0.mk (Kd.V_mono (Kd.V_told (Kd.V_told (Kd.V_told (Kd.V_told (Kd.V_old (zV HO_5.out) hb) (Kd.R_base ho0)) (Kd.R_base ho1)) (Kd.R_base ho2)) (Kd.R_base ho3)) (fun _ h_ => h_.1))
                     have n2_ := Aside0.mk (Kd.V_mono (Kd.V_told (Kd.V_told (Kd.V_told (Kd.V_told (Kd.V_old (zV HO_1194000.out) hb) (Kd.R_base ho0)) (Kd.R_base ho1)) (Kd.R_base ho2)) (Kd.R_base ho3)) (fun _ h_ => h_.1))
                     have n3_ := Aside0.mk (Kd.R_lower (Kd.R_newM (M := fun k_ => (w.heap.size ≤ k_)) ho0 (below_size (zH1 GE1193.out)) (fun k_ h_ => h_)) (below_size (zH1 GE1193.out)))
                     have n4_ := Aside0.mk (Kd.R_lower (Kd.R_newM (M := fun k_ => (w.heap.size ≤ k_)) ho1 (below_size (zH1 GE1193.out)) (fun k_ h_ => h_)) (below_size (zH1 GE1193.out)))
                     have n5_ := Aside0.mk (Kd.R_lower (Kd.R_newM (M := fun k_ => (w.heap.size ≤ k_)) ho2 (below_size (zH1 GE1193.out)) (fun k_ h_ => h_)) (below_size (zH1 GE1193.out)))
                     have n6_ := Aside0.mk (Kd.R_lower (Kd.R_newM (M := fun k_ => (w.heap.size ≤ k_)) ho3 (below_size (zH1 GE1193.out)) (fun k_ h_ => h_)) (below_size (zH1 GE1193.out)))
                     have n7_ := Aside0.mk (blk_below (g := gb1193) (o := .cells #[.slice A0_0 l0_0.length c0_0, .slice (some ad1198) l0_1.length c0_1, .slice (some ad1199) l0_2.length c0_2] 26 (0, 0)) (zB BK1193.out) hb)
                     have n8_ := Aside0.mk (below_step (zH1 GE1193.out) hb)
                     clear HO_4
                     clear HO_5
                     clear HO_1194000
                     clear BK1193
                     clear HB
                     have HO_4 := n0_
                     have HO_5 := n1_
                     have HO_1194000 := n2_
                     have HO1202 := n3_
                     have HO1205 := n4_
                     have HO1208 := n5_
                     have HO1211 := n6_
                     have BK1193 := n7_
                     have HB := n8_
                     clear n0_ n1_ n2_ n3_ n4_ n5_ n6_ n7_ n8_
                     (try clear hb)
                     (try clear hb2)
                     (try clear hk)
                     (try clear hi)
                     (try clear ho0)
                     (try clear ho1)
                     (try clear ho2)
                     (try clear ho3)
                     refine hK.out _ _ ⟨(blk_cell BK1193.out 0).trans rfl, (blk_cell BK1193.out 1).trans rfl, (blk_cell BK1193.out 2).trans rfl, ((HB.out.cell (World.block_lt_of_cell? w _ hw1198_0)).trans hw1198_0), ((HB.out.cell (World.block_lt_of_cell? w _ hw1199_0)).trans hw1199_0)⟩ (fun hHeld => ?_)
                     clear hK K
                     refine norm_ (a' := ?_) ?_ ?_
                     rotate_left
                     · show Act.put _ (some 34) _ = _
                       simp only [Act.put, List.setIfInBounds_toArray, List.set_cons_zero, List.set_cons_succ, i64_w, i32_w]
                       rfl
                     refine one_ (i := 12) (N := some 7) #[true, true, true, true, true, true, true, true, true, true, true, true, true, false] rfl rfl (one_of HT_.out (by kernel_rfl)) (by decide) (fun K hK => ?_)
                     refine box_step ?hg (N := 7) ?hd (cs := #[.slice none 0 0, .slice none 0 0, .slice none 0 0, .slice none 0 0]) (t := 49) ?hr ?_; (case hd => rfl); (case hg => rfl); (case hr => first | (go_simp; done) | (go_simp; rfl))
                     intro gb1212 hg w23 hbox hb
                     have n0_ := Aside0.mk (Kd.N_below (Kd.N_elderB (zN HO_4.out) gb1212 (Nat.le_of_eq hg.symm)) hb)
                     have n1_ := Aside0.mk (Kd.V_below (Kd.V_elderB (zV HO_5.out) gb1212 (Nat.le_of_eq hg.symm)) hb)
                     have n2_ := Aside0.mk (Kd.V_below (Kd.V_elderB (zV HO_1194000.out) gb1212 (Nat.le_of_eq hg.symm)) hb)
                     have n3_ := Aside0.mk (Kd.R_below (zR HO1202.out) hb)
                     have n4_ := Aside0.mk (Kd.R_below (zR HO1205.out) hb)
                     have n5_ := Aside0.mk (Kd.R_below (zR HO1208.out) hb)
                     have n6_ := Aside0.mk (Kd.R_below (zR HO1211.out) hb)
                     have n7_ := Aside0.mk (blk_below (g := gb1193) (o := .cells #[.slice A0_0 l0_0.length c0_0, .slice (some ad1198) l0_1.length c0_1, .slice (some ad1199) l0_2.length c0_2] 26 (0, 0)) (zB BK1193.out) hb)
                     have n8_ := Aside0.mk (below_step (zH1 GE1193.out) hb)
                     have n9_ := Aside0.mk (hbox)
                     have n10_ := Aside0.mk ((z37 : w.heap.size ≤ gb1212))
                     have n11_ := Aside0.mk ((z37 : w.heap.size ≤ gb1212))
                     have n12_ := Aside0.mk ((z22 : gb1193 ≠ gb1212))
                     have n13_ := Aside0.mk ((z23 : gb1212 ≠ gb1193))
                     clear HO_4
                     clear HO_5
                     clear HO_1194000
                     clear HO1202
                     clear HO1205
                     clear HO1208
                     clear HO1211
                     clear BK1193
                     clear HB
                     have HO_4 := n0_
                     have HO_5 := n1_
                     have HO_1194000 := n2_
                     have HO1202 := n3_
                     have HO1205 := n4_
                     have HO1208 := n5_
                     have HO1211 := n6_
                     have BK1193 := n7_
                     have HB := n8_
                     have BK1212 := n9_
                     have GW1212 := n10_
                     have GE1212 := n11_
                     have NB1193_1212 := n12_
                     have NB1212_1193 := n13_
                     clear n0_ n1_ n2_ n3_ n4_ n5_ n6_ n7_ n8_ n9_ n10_ n11_ n12_ n13_
                     clear hb hbox hg
                     refine hK.out _ _ ⟨(blk_cell BK1193.out 0).trans rfl, (blk_cell BK1193.out 1).trans rfl, (blk_cell BK1193.out 2).trans rfl, ((HB.out.cell (World.block_lt_of_cell? w _ hw1198_0)).trans hw1198_0), ((HB.out.cell (World.block_lt_of_cell? w _ hw1199_0)).trans hw1199_0)⟩ (fun hHeld => ?_)
                     clear hK K
                     refine norm_ (a' := ?_) ?_ ?_
                     rotate_left
                     · show Act.put _ (some 7) _ = _
                       simp only [Act.put, List.setIfInBounds_toArray, List.set_cons_zero, List.set_cons_succ, i64_w, i32_w]
                       rfl
                     exact norm_ z20 (hCont (v1201, v1204, v1207, v1210, gb1212) _ ⟨hHeld, (zR HO1202.out), (zR HO1205.out), (zR HO1208.out), (zR HO1211.out), (by (with_reducible repeat (first | apply Kd.V_alloc | apply Kd.V_drewN | apply Kd.V_drew)); exact Kd.V_mono HO_1194000.out (fun _ hk => ⟨hk.1.1.1.1.1.1, ⟨hk.1.1.1.1.2, ⟨hk.1.1.1.2, ⟨hk.1.1.2, ⟨hk.1.2, ⟨hk.1.1.1.1.1.2.1, ⟨hk.1.1.1.1.1.2.2, hk.2⟩⟩⟩⟩⟩⟩⟩)), (by (with_reducible repeat (first | apply Kd.N_alloc | apply Kd.N_drewN | apply Kd.N_drew)); exact Kd.N_mono HO_4.out (fun _ hk => ⟨hk.1.1.1.1.1.1, ⟨hk.1.1.1.1.2, ⟨hk.1.1.1.2, ⟨hk.1.1.2, ⟨hk.1.2, ⟨hk.1.1.1.1.1.2, hk.2⟩⟩⟩⟩⟩⟩)), z27, (zB BK1193.out), (zB BK1212.out), GW1212.out, GE1212.out, NB1193_1212.out, NB1212_1193.out, (zH2 GE1193.out GE1212.out)⟩)
                   · skip
                     refine box_step ?hg (N := 7) ?hd (cs := #[.slice none 0 0, .slice none 0 0, .slice none 0 0, .slice none 0 0]) (t := 49) ?hr ?_; (case hd => rfl); (case hg => rfl); (case hr => first | (go_simp; done) | (go_simp; rfl))
                     intro gb1212 hg w22 hbox hb
                     have n0_ := Aside0.mk (Kd.N_below (Kd.N_elderB (zN HO_4.out) gb1212 (Nat.le_of_eq hg.symm)) hb)
                     have n1_ := Aside0.mk (Kd.V_below (Kd.V_elderB (zV HO_5.out) gb1212 (Nat.le_of_eq hg.symm)) hb)
                     have n2_ := Aside0.mk (Kd.V_below (Kd.V_elderB (zV HO_1194000.out) gb1212 (Nat.le_of_eq hg.symm)) hb)
                     have n3_ := Aside0.mk (blk_below (g := gb1193) (o := .cells #[.slice A0_0 l0_0.length c0_0, .slice (some ad1198) l0_1.length c0_1, .slice (some ad1199) l0_2.length c0_2] 26 (0, 0)) (zB BK1193.out) hb)
                     have n4_ := Aside0.mk (below_step (zH1 GE1193.out) hb)
                     have n5_ := Aside0.mk (hbox)
                     have n6_ := Aside0.mk ((z37 : w.heap.size ≤ gb1212))
                     have n7_ := Aside0.mk ((z37 : w.heap.size ≤ gb1212))
                     have n8_ := Aside0.mk ((z22 : gb1193 ≠ gb1212))
                     have n9_ := Aside0.mk ((z23 : gb1212 ≠ gb1193))
                     clear HO_4
                     clear HO_5
                     clear HO_1194000
                     clear BK1193
                     clear HB
                     have HO_4 := n0_
                     have HO_5 := n1_
                     have HO_1194000 := n2_
                     have BK1193 := n3_
                     have HB := n4_
                     have BK1212 := n5_
                     have GW1212 := n6_
                     have GE1212 := n7_
                     have NB1193_1212 := n8_
                     have NB1212_1193 := n9_
                     clear n0_ n1_ n2_ n3_ n4_ n5_ n6_ n7_ n8_ n9_
                     clear hb hbox hg
                     refine hK.out _ _ ⟨(blk_cell BK1193.out 0).trans rfl, (blk_cell BK1193.out 1).trans rfl, (blk_cell BK1193.out 2).trans rfl, ((HB.out.cell (World.block_lt_of_cell? w _ hw1198_0)).trans hw1198_0), ((HB.out.cell (World.block_lt_of_cell? w _ hw1199_0)).trans hw1199_0)⟩ (fun hHeld => ?_)
                     clear hK K
                     refine norm_ (a' := ?_) ?_ ?_
                     rotate_left
                     · show Act.put _ (some 7) _ = _
                       simp only [Act.put, List.setIfInBounds_toArray, List.set_cons_zero, List.set_cons_succ, i64_w, i32_w]
                       rfl
                     refine one_ (i := 11) (N := some 34) #[true, true, true, true, true, true, true, true, true, true, true, true, true, false] rfl rfl (one_of HT_.out (by kernel_rfl)) (by decide) (fun K hK => ?_)
                     refine goes_ Try.func72 (by kernel_rfl) rfl #[.slice Ao20 x5_1.length co20, .int .i64 (rd l0_1 x6_1), .int .i64 (rd l0_2 x6_1)] (by rfl) rfl rfl z1 ?_
                     with_reducible refine (spec_l7Case.calls k1 _ _ x5_1 (rd l0_1 x6_1) (rd l0_2 x6_1) t1200 t1203 t1206 t1209 _ ?side1 ?side2 A14.out).mono ?_
                     (case side1 => exact zC (Kd.V_reads' HO_5.out).2.2)
                     (case side2 => exact (Kd.V_reads' HO_5.out).2.1)
                     rintro e w23 ⟨v1201, v1204, v1207, v1210, rfl, ho0, ho1, ho2, ho3, hb⟩
                     refine ⟨_, rfl, ?_⟩
                     have n0_ := Aside0.mk (Kd.N_mono (Kd.N_told (Kd.N_told (Kd.N_told (Kd.N_told (Kd.N_old (zN HO_4.out) hb) (Kd.R_base ho0)) (Kd.R_base ho1)) (Kd.R_base ho2)) (Kd.R_base ho3)) (fun _ h_ => h_.1))
                     have n1_ := Aside0.mk (Kd.V_mono (Kd.V_told (Kd.V_told (Kd.V_told (Kd.V_told (Kd.V_old (zV HO_5.out) hb) (Kd.R_base ho0)) (Kd.R_base ho1)) (Kd.R_base ho2)) (Kd.R_base ho3)) (fun _ h_ => h_.1))
                     have n2_ := Aside0.mk (Kd.V_mono (Kd.V_told (Kd.V_told (Kd.V_told (Kd.V_told (Kd.V_old (zV HO_1194000.out) hb) (Kd.R_base ho0)) (Kd.R_base ho1)) (Kd.R_base ho2)) (Kd.R_base ho3)) (fun _ h_ => h_.1))
                     have n3_ := Aside0.mk (Kd.R_lower (Kd.R_newM (M := fun k_ => (w.heap.size ≤ k_)) ho0 (below_size (zH2 GE1193.out GE1212.out)) (fun k_ h_ => h_)) (below_size (zH2 GE1193.out GE1212.out)))
                     have n4_ := Aside0.mk (Kd.R_lower (Kd.R_newM (M := fun k_ => (w.heap.size ≤ k_)) ho1 (below_size (zH2 GE1193.out GE1212.out)) (fun k_ h_ => h_)) (below_size (zH2 GE1193.out GE1212.out)))
                     have n5_ := Aside0.mk (Kd.R_lower (Kd.R_newM (M := fun k_ => (w.heap.size ≤ k_)) ho2 (below_size (zH2 GE1193.out GE1212.out)) (fun k_ h_ => h_)) (below_size (zH2 GE1193.out GE1212.out)))
                     have n6_ := Aside0.mk (Kd.R_lower (Kd.R_newM (M := fun k_ => (w.heap.size ≤ k_)) ho3 (below_size (zH2 GE1193.out GE1212.out)) (fun k_ h_ => h_)) (below_size (zH2 GE1193.out GE1212.out)))
                     have n7_ := Aside0.mk (blk_below (g := gb1193) (o := .cells #[.slice A0_0 l0_0.length c0_0, .slice (some ad1198) l0_1.length c0_1, .slice (some ad1199) l0_2.length c0_2] 26 (0, 0)) (zB BK1193.out) hb)
                     have n8_ := Aside0.mk (blk_below (g := gb1212) (o := .cells #[.slice none 0 0, .slice none 0 0, .slice none 0 0, .slice none 0 0] 49 (0, 0)) (zB BK1212.out) hb)
                     have n9_ := Aside0.mk (below_step (zH2 GE1193.out GE1212.out) hb)
                     clear HO_4
                     clear HO_5
                     clear HO_1194000
                     clear BK1193
                     clear BK1212
                     clear HB
                     have HO_4 := n0_
                     have HO_5 := n1_
                     have HO_1194000 := n2_
                     have HO1202 := n3_
                     have HO1205 := n4_
                     have HO1208 := n5_
                     have HO1211 := n6_
                     have BK1193 := n7_
                     have BK1212 := n8_
                     have HB := n9_
                     clear n0_ n1_ n2_ n3_ n4_ n5_ n6_ n7_ n8_ n9_
                     (try clear hb)
                     (try clear hb2)
                     (try clear hk)
                     (try clear hi)
                     (try clear ho0)
                     (try clear ho1)
                     (try clear ho2)
                     (try clear ho3)
                     refine hK.out _ _ ⟨(blk_cell BK1193.out 0).trans rfl, (blk_cell BK1193.out 1).trans rfl, (blk_cell BK1193.out 2).trans rfl, ((HB.out.cell (World.block_lt_of_cell? w _ hw1198_0)).trans hw1198_0), ((HB.out.cell (World.block_lt_of_cell? w _ hw1199_0)).trans hw1199_0)⟩ (fun hHeld => ?_)
                     clear hK K
                     refine norm_ (a' := ?_) ?_ ?_
                     rotate_left
                     · show Act.put _ (some 34) _ = _
                       simp only [Act.put, List.setIfInBounds_toArray, List.set_cons_zero, List.set_cons_succ, i64_w, i32_w]
                       rfl
                     exact norm_ z20 (hCont (v1201, v1204, v1207, v1210, gb1212) _ ⟨hHeld, (zR HO1202.out), (zR HO1205.out), (zR HO1208.out), (zR HO1211.out), (by (with_reducible repeat (first | apply Kd.V_alloc | apply Kd.V_drewN | apply Kd.V_drew)); exact Kd.V_mono HO_1194000.out (fun _ hk => ⟨hk.1.1.1.1.1.1, ⟨hk.1.1.1.2, ⟨hk.1.1.2, ⟨hk.1.2, ⟨hk.2, ⟨hk.1.1.1.1.1.2.1, ⟨hk.1.1.1.1.1.2.2, hk.1.1.1.1.2⟩⟩⟩⟩⟩⟩⟩)), (by (with_reducible repeat (first | apply Kd.N_alloc | apply Kd.N_drewN | apply Kd.N_drew)); exact Kd.N_mono HO_4.out (fun _ hk => ⟨hk.1.1.1.1.1.1, ⟨hk.1.1.1.2, ⟨hk.1.1.2, ⟨hk.1.2, ⟨hk.2, ⟨hk.1.1.1.1.1.2, hk.1.1.1.1.2⟩⟩⟩⟩⟩⟩)), z26, (zB BK1193.out), (zB BK1212.out), GW1212.out, GE1212.out, NB1193_1212.out, NB1212_1193.out, (zH2 GE1193.out GE1212.out)⟩)
                 rintro ⟨v1201, v1204, v1207, v1210, gb1212⟩ w24 ⟨hS_, h0_, h1_, h2_, h3_, h4_, h5_, h6_, h7_, h8_, h9_, h10_, h11_, h12_, h13_⟩
                 have n0_ : Aside0 (Kd.R (Kd.int .i64) 3 w24 w.heap.size (fun k_ => (w.heap.size ≤ k_) ∧ some k_ ≠ (v1204 : Value).ownBlock ∧ some k_ ≠ (v1207 : Value).ownBlock ∧ some k_ ≠ (v1210 : Value).ownBlock) v1201 t1200) := ⟨h0_⟩
                 have n1_ : Aside0 (Kd.R (Kd.int .i64) 3 w24 w.heap.size (fun k_ => (w.heap.size ≤ k_) ∧ some k_ ≠ (v1201 : Value).ownBlock ∧ some k_ ≠ (v1207 : Value).ownBlock ∧ some k_ ≠ (v1210 : Value).ownBlock) v1204 t1203) := ⟨h1_⟩
                 have n2_ : Aside0 (Kd.R (Kd.int .i64) 3 w24 w.heap.size (fun k_ => (w.heap.size ≤ k_) ∧ some k_ ≠ (v1201 : Value).ownBlock ∧ some k_ ≠ (v1204 : Value).ownBlock ∧ some k_ ≠ (v1210 : Value).ownBlock) v1207 t1206) := ⟨h2_⟩
                 have n3_ : Aside0 (Kd.R (Kd.int .i64) 3 w24 w.heap.size (fun k_ => (w.heap.size ≤ k_) ∧ some k_ ≠ (v1201 : Value).ownBlock ∧ some k_ ≠ (v1204 : Value).ownBlock ∧ some k_ ≠ (v1207 : Value).ownBlock) v1210 t1209) := ⟨h3_⟩
                 have n4_ : Aside0 (Kd.V (Kd.int .i64) 3 w24 w.heap.size (fun k_ => (P0_0_ k_ ∨ w.heap.size ≤ k_) ∧ some k_ ≠ (v1201 : Value).ownBlock ∧ some k_ ≠ (v1204 : Value).ownBlock ∧ some k_ ≠ (v1207 : Value).ownBlock ∧ some k_ ≠ (v1210 : Value).ownBlock ∧ some k_ ≠ (u4 : Value).ownBlock ∧ k_ ≠ gb1193 ∧ k_ ≠ gb1212) (.slice A0_0 l0_0.length c0_0) l0_0) := ⟨h4_⟩
                 have n5_ : Aside0 (Kd.N (Kd.slice 3 (Kd.int .i64)) 24 w24 w.heap.size (fun k_ => (P0_0_ k_ ∨ w.heap.size ≤ k_) ∧ some k_ ≠ (v1201 : Value).ownBlock ∧ some k_ ≠ (v1204 : Value).ownBlock ∧ some k_ ≠ (v1207 : Value).ownBlock ∧ some k_ ≠ (v1210 : Value).ownBlock ∧ k_ ≠ gb1193 ∧ k_ ≠ gb1212) u4 x4_1) := ⟨h5_⟩
                 have n6_ : Aside0 (Kd.V (Kd.int .i64) 3 w24 w.heap.size (fun k_ => (P0_0_ k_ ∨ w.heap.size ≤ k_) ∧ some k_ ≠ (v1201 : Value).ownBlock ∧ some k_ ≠ (v1204 : Value).ownBlock ∧ some k_ ≠ (v1207 : Value).ownBlock ∧ some k_ ≠ (v1210 : Value).ownBlock ∧ some k_ ≠ (u4 : Value).ownBlock ∧ k_ ≠ gb1193 ∧ k_ ≠ gb1212) (.slice Ao20 x5_1.length co20) x5_1) := ⟨h6_⟩
                 have n7_ : Aside0 (w24.heap[gb1193]? = some (.cells #[.slice A0_0 l0_0.length c0_0, .slice (some ad1198) l0_1.length c0_1, .slice (some ad1199) l0_2.length c0_2] 26 (0, 0))) := ⟨h7_⟩
                 have n8_ : Aside0 (w24.heap[gb1212]? = some (.cells #[.slice none 0 0, .slice none 0 0, .slice none 0 0, .slice none 0 0] 49 (0, 0))) := ⟨h8_⟩
                 have n9_ : Aside0 (w.heap.size ≤ gb1212) := ⟨h9_⟩
                 have n10_ : Aside0 (w.heap.size ≤ gb1212) := ⟨h10_⟩
                 have n11_ : Aside0 (gb1193 ≠ gb1212) := ⟨h11_⟩
                 have n12_ : Aside0 (gb1212 ≠ gb1193) := ⟨h12_⟩
                 have n13_ : Aside0 (Below w.heap.size w w24) := ⟨h13_⟩
                 clear HO_4
                 clear HO_5
                 clear HO_1194000
                 clear BK1193
                 clear HB
                 clear h0_ h1_ h2_ h3_ h4_ h5_ h6_ h7_ h8_ h9_ h10_ h11_ h12_ h13_
                 have HO1202 := n0_
                 have HO1205 := n1_
                 have HO1208 := n2_
                 have HO1211 := n3_
                 have HO_1194000 := n4_
                 have HO_4 := n5_
                 have HO_5 := n6_
                 have BK1193 := n7_
                 have BK1212 := n8_
                 have GW1212 := n9_
                 have GE1212 := n10_
                 have NB1193_1212 := n11_
                 have NB1212_1193 := n12_
                 have HB := n13_
                 clear n0_ n1_ n2_ n3_ n4_ n5_ n6_ n7_ n8_ n9_ n10_ n11_ n12_ n13_
                 have hHeld : w24.cell? ⟨gb1193, 0, none⟩ = some (.slice A0_0 l0_0.length c0_0) ∧ w24.cell? ⟨gb1193, 1, none⟩ = some (.slice (some ad1198) l0_1.length c0_1) ∧ w24.cell? ⟨gb1193, 2, none⟩ = some (.slice (some ad1199) l0_2.length c0_2) ∧ w24.cell? (ad1198.add (x6_1).toNat) = some (.int .i64 (rd l0_1 x6_1)) ∧ w24.cell? (ad1199.add (x6_1).toNat) = some (.int .i64 (rd l0_2 x6_1)) := hS_
                 obtain ⟨Ao25, co25, eo25⟩ := Kd.R_slice HO1202.out
                 (first | subst eo25 | (injection eo25 with f1_ f2_ f3_; have f4_ := f1_.symm; have f5_ := f3_.symm; clear f1_ f2_ f3_; subst f4_; subst f5_))
                 obtain ⟨Ao27, co27, eo27⟩ := Kd.R_slice HO1205.out
                 (first | subst eo27 | (injection eo27 with f1_ f2_ f3_; have f4_ := f1_.symm; have f5_ := f3_.symm; clear f1_ f2_ f3_; subst f4_; subst f5_))
                 obtain ⟨Ao29, co29, eo29⟩ := Kd.R_slice HO1208.out
                 (first | subst eo29 | (injection eo29 with f1_ f2_ f3_; have f4_ := f1_.symm; have f5_ := f3_.symm; clear f1_ f2_ f3_; subst f4_; subst f5_))
                 obtain ⟨Ao31, co31, eo31⟩ := Kd.R_slice HO1211.out
                 (first | subst eo31 | (injection eo31 with f1_ f2_ f3_; have f4_ := f1_.symm; have f5_ := f3_.symm; clear f1_ f2_ f3_; subst f4_; subst f5_))
                 refine norm_ (a' := ?_) ?_ ?_
                 rotate_left
                 · simp only [putAll, Act.put, List.setIfInBounds_toArray, List.set_cons_zero, List.set_cons_succ]
                   rfl
                 refine one_ (i := 13) (N := none) #[true, true, true, true, true, true, true, true, true, true, true, true, true, true] rfl rfl (one_of HT_.out (by kernel_rfl)) (by decide) (fun K hK => ?_)
                 have hs26 : w24.cell? ⟨gb1212, 0, none⟩ = some (.slice none 0 0) := (blk_cell BK1212.out 0).trans rfl
                 have hfs26 := blk_frozen BK1212.out 0
                 have hns26_0 := NB1193_1212.out
                 have hms26_0 := NB1212_1193.out
                 have hs28 : w24.cell? ⟨gb1212, 1, none⟩ = some (.slice none 0 0) := (blk_cell BK1212.out 1).trans rfl
                 have hfs28 := blk_frozen BK1212.out 1
                 have hns28_0 := NB1193_1212.out
                 have hms28_0 := NB1212_1193.out
                 have hs30 : w24.cell? ⟨gb1212, 2, none⟩ = some (.slice none 0 0) := (blk_cell BK1212.out 2).trans rfl
                 have hfs30 := blk_frozen BK1212.out 2
                 have hns30_0 := NB1193_1212.out
                 have hms30_0 := NB1212_1193.out
                 have hs32 : w24.cell? ⟨gb1212, 3, none⟩ = some (.slice none 0 0) := (blk_cell BK1212.out 3).trans rfl
                 have hfs32 := blk_frozen BK1212.out 3
                 have hns32_0 := NB1193_1212.out
                 have hms32_0 := NB1212_1193.out
                 refine skip_ (w1 := ?_) (by rfl) rfl ?_ ?_
                 rotate_left
                 · go_simp
                   rfl
                 refine hK.out _ _ ⟨((cell_far (p := ⟨gb1212, _, none⟩) NB1193_1212.out _).trans (((cell_far (p := ⟨gb1212, _, none⟩) NB1193_1212.out _).trans (((cell_far (p := ⟨gb1212, _, none⟩) NB1193_1212.out _).trans (((cell_far (p := ⟨gb1212, _, none⟩) NB1193_1212.out _).trans (hHeld.1)))))))), ((cell_far (p := ⟨gb1212, _, none⟩) NB1193_1212.out _).trans (((cell_far (p := ⟨gb1212, _, none⟩) NB1193_1212.out _).trans (((cell_far (p := ⟨gb1212, _, none⟩) NB1193_1212.out _).trans (((cell_far (p := ⟨gb1212, _, none⟩) NB1193_1212.out _).trans (hHeld.2.1)))))))), ((cell_far (p := ⟨gb1212, _, none⟩) NB1193_1212.out _).trans (((cell_far (p := ⟨gb1212, _, none⟩) NB1193_1212.out _).trans (((cell_far (p := ⟨gb1212, _, none⟩) NB1193_1212.out _).trans (((cell_far (p := ⟨gb1212, _, none⟩) NB1193_1212.out _).trans (hHeld.2.2.1)))))))), ((cell_far (p := ⟨gb1212, _, none⟩) z5 _).trans (((cell_far (p := ⟨gb1212, _, none⟩) z5 _).trans (((cell_far (p := ⟨gb1212, _, none⟩) z5 _).trans (((cell_far (p := ⟨gb1212, _, none⟩) z5 _).trans (hHeld.2.2.2.1)))))))), ((cell_far (p := ⟨gb1212, _, none⟩) z4 _).trans (((cell_far (p := ⟨gb1212, _, none⟩) z4 _).trans (((cell_far (p := ⟨gb1212, _, none⟩) z4 _).trans (((cell_far (p := ⟨gb1212, _, none⟩) z4 _).trans (hHeld.2.2.2.2))))))))⟩ (fun hHeld => ?_)
                 clear hK K
                 refine done_ (done_of HT_.out (by kernel_rfl)) ?_
                 have hnb33 := NB1212_1193.out
                 have hnc33 := NB1193_1212.out
                 have hcz34_0 : w24.cell? ⟨gb1212, 0, none⟩ = some (.slice none 0 0) := (blk_cell BK1212.out 0).trans rfl
                 have hcz34_1 : w24.cell? ⟨gb1212, 1, none⟩ = some (.slice none 0 0) := (blk_cell BK1212.out 1).trans rfl
                 have hcz34_2 : w24.cell? ⟨gb1212, 2, none⟩ = some (.slice none 0 0) := (blk_cell BK1212.out 2).trans rfl
                 have hcz34_3 : w24.cell? ⟨gb1212, 3, none⟩ = some (.slice none 0 0) := (blk_cell BK1212.out 3).trans rfl
                 have hfz34_0 := blk_frozen BK1212.out 0
                 have hfz34_1 := blk_frozen BK1212.out 1
                 have hfz34_2 := blk_frozen BK1212.out 2
                 have hfz34_3 := blk_frozen BK1212.out 3
                 try go_wp2_with (first | ((with_reducible refine gate_callee (f := 73) rfl ?_); refine goesL_ (some 36) rfl rfl Try.func73 (by kernel_rfl) rfl #[.agg #[.slice Ao25 t1200.length co25, .slice Ao27 t1203.length co27, .slice Ao29 t1206.length co29, .slice Ao31 t1209.length co31]] rfl z1 ?_; (with_reducible refine (spec_l2Good.calls k1 _ _ t1200 _ _ t1203 _ _ t1206 _ _ t1209 true _ ?side1 ?side2 ?side3 ?side4 ?side5 ?side6 ?side7 ?side8 A15.out).mono ?_); (case side1 => refine (Kd.R_reads' (e := 3) (base := w.heap.size) (ok := fun k_ => ((w.heap.size ≤ k_) ∧ (some k_ ≠ (.slice Ao27 t1203.length co27 : Value).ownBlock ∧ (some k_ ≠ (.slice Ao29 t1206.length co29 : Value).ownBlock ∧ some k_ ≠ (.slice Ao31 t1209.length co31 : Value).ownBlock)))) (n := t1200.length) (c := co25) ?_).2.2; exact (by (with_reducible repeat (first | apply Kd.R_alloc | apply Kd.R_drewN | apply Kd.R_drew)); exact (Kd.R_mono (Kd.R_far (p := ⟨gb1212, 3, none⟩) (Kd.R_far (p := ⟨gb1212, 2, none⟩) (Kd.R_far (p := ⟨gb1212, 1, none⟩) (Kd.R_far (p := ⟨gb1212, 0, none⟩) (Kd.R_types HO1202.out BK1212.out (by decide)) (fun _ hk => hk.2) (.slice Ao25 t1200.length co25)) (fun _ hk => hk.2) (.slice Ao27 t1203.length co27)) (fun _ hk => hk.2) (.slice Ao29 t1206.length co29)) (fun _ hk => hk.2) (.slice Ao31 t1209.length co31)) (fun _ h_ => h_.1)))); (case side2 => exact (Kd.R_reads' HO1202.out).2.1); (case side3 => refine (Kd.R_reads' (e := 3) (base := w.heap.size) (ok := fun k_ => ((w.heap.size ≤ k_) ∧ (some k_ ≠ (.slice Ao25 t1200.length co25 : Value).ownBlock ∧ (some k_ ≠ (.slice Ao29 t1206.length co29 : Value).ownBlock ∧ some k_ ≠ (.slice Ao31 t1209.length co31 : Value).ownBlock)))) (n := t1203.length) (c := co27) ?_).2.2; exact (by (with_reducible repeat (first | apply Kd.R_alloc | apply Kd.R_drewN | apply Kd.R_drew)); exact (Kd.R_mono (Kd.R_far (p := ⟨gb1212, 3, none⟩) (Kd.R_far (p := ⟨gb1212, 2, none⟩) (Kd.R_far (p := ⟨gb1212, 1, none⟩) (Kd.R_far (p := ⟨gb1212, 0, none⟩) (Kd.R_types HO1205.out BK1212.out (by decide)) (fun _ hk => hk.2) (.slice Ao25 t1200.length co25)) (fun _ hk => hk.2) (.slice Ao27 t1203.length co27)) (fun _ hk => hk.2) (.slice Ao29 t1206.length co29)) (fun _ hk => hk.2) (.slice Ao31 t1209.length co31)) (fun _ h_ => h_.1)))); (case side4 => exact (Kd.R_reads' HO1205.out).2.1); (case side5 => refine (Kd.R_reads' (e := 3) (base := w.heap.size) (ok := fun k_ => ((w.heap.size ≤ k_) ∧ (some k_ ≠ (.slice Ao25 t1200.length co25 : Value).ownBlock ∧ (some k_ ≠ (.slice Ao27 t1203.length co27 : Value).ownBlock ∧ some k_ ≠ (.slice Ao31 t1209.length co31 : Value).ownBlock)))) (n := t1206.length) (c := co29) ?_).2.2; exact (by (with_reducible repeat (first | apply Kd.R_alloc | apply Kd.R_drewN | apply Kd.R_drew)); exact (Kd.R_mono (Kd.R_far (p := ⟨gb1212, 3, none⟩) (Kd.R_far (p := ⟨gb1212, 2, none⟩) (Kd.R_far (p := ⟨gb1212, 1, none⟩) (Kd.R_far (p := ⟨gb1212, 0, none⟩) (Kd.R_types HO1208.out BK1212.out (by decide)) (fun _ hk => hk.2) (.slice Ao25 t1200.length co25)) (fun _ hk => hk.2) (.slice Ao27 t1203.length co27)) (fun _ hk => hk.2) (.slice Ao29 t1206.length co29)) (fun _ hk => hk.2) (.slice Ao31 t1209.length co31)) (fun _ h_ => h_.1)))); (case side6 => exact (Kd.R_reads' HO1208.out).2.1); (case side7 => refine (Kd.R_reads' (e := 3) (base := w.heap.size) (ok := fun k_ => ((w.heap.size ≤ k_) ∧ (some k_ ≠ (.slice Ao25 t1200.length co25 : Value).ownBlock ∧ (some k_ ≠ (.slice Ao27 t1203.length co27 : Value).ownBlock ∧ some k_ ≠ (.slice Ao29 t1206.length co29 : Value).ownBlock)))) (n := t1209.length) (c := co31) ?_).2.2; exact (by (with_reducible repeat (first | apply Kd.R_alloc | apply Kd.R_drewN | apply Kd.R_drew)); exact (Kd.R_mono (Kd.R_far (p := ⟨gb1212, 3, none⟩) (Kd.R_far (p := ⟨gb1212, 2, none⟩) (Kd.R_far (p := ⟨gb1212, 1, none⟩) (Kd.R_far (p := ⟨gb1212, 0, none⟩) (Kd.R_types HO1211.out BK1212.out (by decide)) (fun _ hk => hk.2) (.slice Ao25 t1200.length co25)) (fun _ hk => hk.2) (.slice Ao27 t1203.length co27)) (fun _ hk => hk.2) (.slice Ao29 t1206.length co29)) (fun _ hk => hk.2) (.slice Ao31 t1209.length co31)) (fun _ h_ => h_.1)))); (case side8 => exact (Kd.R_reads' HO1211.out).2.1); rintro e w35 ⟨rfl, hb⟩; refine ⟨_, rfl, ?_⟩; have n0_ := Aside0.mk (Kd.N_below (by (with_reducible repeat (first | apply Kd.N_alloc | apply Kd.N_drewN | apply Kd.N_drew)); exact (Kd.N_mono (Kd.N_far (p := ⟨gb1212, 3, none⟩) (Kd.N_far (p := ⟨gb1212, 2, none⟩) (Kd.N_far (p := ⟨gb1212, 1, none⟩) (Kd.N_far (p := ⟨gb1212, 0, none⟩) (Kd.N_mono HO_4.out (fun k_ hk => (⟨hk, hk.2.2.2.2.2.2⟩ : _ ∧ k_ ≠ gb1212))) (fun _ hk => hk.2) (.slice Ao25 t1200.length co25)) (fun _ hk => hk.2) (.slice Ao27 t1203.length co27)) (fun _ hk => hk.2) (.slice Ao29 t1206.length co29)) (fun _ hk => hk.2) (.slice Ao31 t1209.length co31)) (fun _ h_ => h_.1))) hb); have n1_ := Aside0.mk (Kd.V_below (by (with_reducible repeat (first | apply Kd.V_alloc | apply Kd.V_drewN | apply Kd.V_drew)); exact (Kd.V_mono (Kd.V_far (p := ⟨gb1212, 3, none⟩) (Kd.V_far (p := ⟨gb1212, 2, none⟩) (Kd.V_far (p := ⟨gb1212, 1, none⟩) (Kd.V_far (p := ⟨gb1212, 0, none⟩) (Kd.V_mono HO_5.out (fun k_ hk => (⟨hk, hk.2.2.2.2.2.2.2⟩ : _ ∧ k_ ≠ gb1212))) (fun _ hk => hk.2) (.slice Ao25 t1200.length co25)) (fun _ hk => hk.2) (.slice Ao27 t1203.length co27)) (fun _ hk => hk.2) (.slice Ao29 t1206.length co29)) (fun _ hk => hk.2) (.slice Ao31 t1209.length co31)) (fun _ h_ => h_.1))) hb); have n2_ := Aside0.mk (Kd.V_below (by (with_reducible repeat (first | apply Kd.V_alloc | apply Kd.V_drewN | apply Kd.V_drew)); exact (Kd.V_mono (Kd.V_far (p := ⟨gb1212, 3, none⟩) (Kd.V_far (p := ⟨gb1212, 2, none⟩) (Kd.V_far (p := ⟨gb1212, 1, none⟩) (Kd.V_far (p := ⟨gb1212, 0, none⟩) (Kd.V_mono HO_1194000.out (fun k_ hk => (⟨hk, hk.2.2.2.2.2.2.2⟩ : _ ∧ k_ ≠ gb1212))) (fun _ hk => hk.2) (.slice Ao25 t1200.length co25)) (fun _ hk => hk.2) (.slice Ao27 t1203.length co27)) (fun _ hk => hk.2) (.slice Ao29 t1206.length co29)) (fun _ hk => hk.2) (.slice Ao31 t1209.length co31)) (fun _ h_ => h_.1))) hb); have n3_ := Aside0.mk (Kd.R_below (by (with_reducible repeat (first | apply Kd.R_alloc | apply Kd.R_drewN | apply Kd.R_drew)); exact (Kd.R_mono (Kd.R_far (p := ⟨gb1212, 3, none⟩) (Kd.R_far (p := ⟨gb1212, 2, none⟩) (Kd.R_far (p := ⟨gb1212, 1, none⟩) (Kd.R_far (p := ⟨gb1212, 0, none⟩) (Kd.R_types HO1202.out BK1212.out (by decide)) (fun _ hk => hk.2) (.slice Ao25 t1200.length co25)) (fun _ hk => hk.2) (.slice Ao27 t1203.length co27)) (fun _ hk => hk.2) (.slice Ao29 t1206.length co29)) (fun _ hk => hk.2) (.slice Ao31 t1209.length co31)) (fun _ h_ => h_.1))) hb); have n4_ := Aside0.mk (Kd.R_below (by (with_reducible repeat (first | apply Kd.R_alloc | apply Kd.R_drewN | apply Kd.R_drew)); exact (Kd.R_mono (Kd.R_far (p := ⟨gb1212, 3, none⟩) (Kd.R_far (p := ⟨gb1212, 2, none⟩) (Kd.R_far (p := ⟨gb1212, 1, none⟩) (Kd.R_far (p := ⟨gb1212, 0, none⟩) (Kd.R_types HO1205.out BK1212.out (by decide)) (fun _ hk => hk.2) (.slice Ao25 t1200.length co25)) (fun _ hk => hk.2) (.slice Ao27 t1203.length co27)) (fun _ hk => hk.2) (.slice Ao29 t1206.length co29)) (fun _ hk => hk.2) (.slice Ao31 t1209.length co31)) (fun _ h_ => h_.1))) hb); have n5_ := Aside0.mk (Kd.R_below (by (with_reducible repeat (first | apply Kd.R_alloc | apply Kd.R_drewN | apply Kd.R_drew)); exact (Kd.R_mono (Kd.R_far (p := ⟨gb1212, 3, none⟩) (Kd.R_far (p := ⟨gb1212, 2, none⟩) (Kd.R_far (p := ⟨gb1212, 1, none⟩) (Kd.R_far (p := ⟨gb1212, 0, none⟩) (Kd.R_types HO1208.out BK1212.out (by decide)) (fun _ hk => hk.2) (.slice Ao25 t1200.length co25)) (fun _ hk => hk.2) (.slice Ao27 t1203.length co27)) (fun _ hk => hk.2) (.slice Ao29 t1206.length co29)) (fun _ hk => hk.2) (.slice Ao31 t1209.length co31)) (fun _ h_ => h_.1))) hb); have n6_ := Aside0.mk (Kd.R_below (by (with_reducible repeat (first | apply Kd.R_alloc | apply Kd.R_drewN | apply Kd.R_drew)); exact (Kd.R_mono (Kd.R_far (p := ⟨gb1212, 3, none⟩) (Kd.R_far (p := ⟨gb1212, 2, none⟩) (Kd.R_far (p := ⟨gb1212, 1, none⟩) (Kd.R_far (p := ⟨gb1212, 0, none⟩) (Kd.R_types HO1211.out BK1212.out (by decide)) (fun _ hk => hk.2) (.slice Ao25 t1200.length co25)) (fun _ hk => hk.2) (.slice Ao27 t1203.length co27)) (fun _ hk => hk.2) (.slice Ao29 t1206.length co29)) (fun _ hk => hk.2) (.slice Ao31 t1209.length co31)) (fun _ h_ => h_.1))) hb); have n7_ := Aside0.mk (blk_below (g := gb1193) (o := .cells #[.slice A0_0 l0_0.length c0_0, .slice (some ad1198) l0_1.length c0_1, .slice (some ad1199) l0_2.length c0_2] 26 (0, 0)) (by (with_reducible repeat (first | refine blk_drewN ?_ _ | refine blk_drew ?_ | refine blk_alloc ?_ _)); refine blk_far ?_ NB1193_1212.out _; (with_reducible repeat (first | refine blk_drewN ?_ _ | refine blk_drew ?_ | refine blk_alloc ?_ _)); refine blk_far ?_ NB1193_1212.out _; (with_reducible repeat (first | refine blk_drewN ?_ _ | refine blk_drew ?_ | refine blk_alloc ?_ _)); refine blk_far ?_ NB1193_1212.out _; (with_reducible repeat (first | refine blk_drewN ?_ _ | refine blk_drew ?_ | refine blk_alloc ?_ _)); refine blk_far ?_ NB1193_1212.out _; (with_reducible repeat (first | refine blk_drewN ?_ _ | refine blk_drew ?_ | refine blk_alloc ?_ _)); exact BK1193.out) hb); have n8_ := Aside0.mk (blk_below (g := gb1212) (o := .cells #[.slice Ao25 t1200.length co25, .slice Ao27 t1203.length co27, .slice Ao29 t1206.length co29, .slice Ao31 t1209.length co31] 49 (0, 0)) (by (with_reducible repeat (first | refine blk_drewN ?_ _ | refine blk_drew ?_ | refine blk_alloc ?_ _)); refine blk_put (cs := #[.slice Ao25 t1200.length co25, .slice Ao27 t1203.length co27, .slice Ao29 t1206.length co29, .slice none 0 0]) ?_ 3 _ rfl; (with_reducible repeat (first | refine blk_drewN ?_ _ | refine blk_drew ?_ | refine blk_alloc ?_ _)); refine blk_put (cs := #[.slice Ao25 t1200.length co25, .slice Ao27 t1203.length co27, .slice none 0 0, .slice none 0 0]) ?_ 2 _ rfl; (with_reducible repeat (first | refine blk_drewN ?_ _ | refine blk_drew ?_ | refine blk_alloc ?_ _)); refine blk_put (cs := #[.slice Ao25 t1200.length co25, .slice none 0 0, .slice none 0 0, .slice none 0 0]) ?_ 1 _ rfl; (with_reducible repeat (first | refine blk_drewN ?_ _ | refine blk_drew ?_ | refine blk_alloc ?_ _)); refine blk_put (cs := #[.slice none 0 0, .slice none 0 0, .slice none 0 0, .slice none 0 0]) ?_ 0 _ rfl; (with_reducible repeat (first | refine blk_drewN ?_ _ | refine blk_drew ?_ | refine blk_alloc ?_ _)); exact BK1212.out) hb); have n9_ := Aside0.mk (below_step (zH2 GE1193.out GE1212.out) hb); clear HO_4; clear HO_5; clear HO_1194000; clear HO1202; clear HO1205; clear HO1208; clear HO1211; clear BK1193; clear BK1212; clear HB; have HO_4 := n0_; have HO_5 := n1_; have HO_1194000 := n2_; have HO1202 := n3_; have HO1205 := n4_; have HO1208 := n5_; have HO1211 := n6_; have BK1193 := n7_; have BK1212 := n8_; have HB := n9_; clear n0_ n1_ n2_ n3_ n4_ n5_ n6_ n7_ n8_ n9_; (try clear hb); (try clear hb2); (try clear hk); (try clear hi)))
                 have n0_ := Aside0.mk (Kd.N_drew HO_4.out)
                 have n1_ := Aside0.mk (Kd.V_drew HO_5.out)
                 have n2_ := Aside0.mk (Kd.V_drew HO_1194000.out)
                 have n3_ := Aside0.mk (Kd.R_drew HO1202.out)
                 have n4_ := Aside0.mk (Kd.R_drew HO1205.out)
                 have n5_ := Aside0.mk (Kd.R_drew HO1208.out)
                 have n6_ := Aside0.mk (Kd.R_drew HO1211.out)
                 have n7_ := Aside0.mk (blk_drew BK1193.out)
                 have n8_ := Aside0.mk (blk_drew BK1212.out)
                 have n9_ := Aside0.mk (below_drew1 HB.out)
                 clear HO_4
                 clear HO_5
                 clear HO_1194000
                 clear HO1202
                 clear HO1205
                 clear HO1208
                 clear HO1211
                 clear BK1193
                 clear BK1212
                 clear HB
                 have HO_4 := n0_
                 have HO_5 := n1_
                 have HO_1194000 := n2_
                 have HO1202 := n3_
                 have HO1205 := n4_
                 have HO1208 := n5_
                 have HO1211 := n6_
                 have BK1193 := n7_
                 have BK1212 := n8_
                 have HB := n9_
                 clear n0_ n1_ n2_ n3_ n4_ n5_ n6_ n7_ n8_ n9_
                 refine start_ (n := 5) (S := fun w' => w'.cell? ⟨gb1212, 0, none⟩ = some (.slice Ao25 t1200.length co25) ∧ w'.cell? ⟨gb1212, 1, none⟩ = some (.slice Ao27 t1203.length co27) ∧ w'.cell? ⟨gb1212, 2, none⟩ = some (.slice Ao29 t1206.length co29) ∧ w'.cell? ⟨gb1212, 3, none⟩ = some (.slice Ao31 t1209.length co31)) (ds := []) #[false, false, false, false, false] (by kernel_rfl) rfl rfl ⟨(blk_cell BK1212.out 0).trans rfl, (blk_cell BK1212.out 1).trans rfl, (blk_cell BK1212.out 2).trans rfl, (blk_cell BK1212.out 3).trans rfl⟩ (fun hHeld => ?_)
                 generalize w35.drew = w36 at HO_4 HO_5 HO_1194000 HO1202 HO1205 HO1208 HO1211 BK1193 BK1212 HB hHeld ⊢
                 refine take_ (i := 0) (N := some 39) (v := ?_) (a' := ?_) #[true, false, false, false, false] rfl rfl (by kernel_rfl) (fun _ _ _ h => h) (Or.inl ⟨by rfl, ?_⟩) hHeld ?_ ?_
                 rotate_left
                 · rintro w' ⟨s0, s1, s2, s3⟩
                   go_simp
                   with_reducible rfl
                 rotate_left
                 · simp only [Act.put, List.setIfInBounds_toArray, List.set_cons_zero, List.set_cons_succ, i64_w, i32_w]
                   rfl
                 refine take_ (i := 1) (N := some 40) (v := ?_) (a' := ?_) #[true, true, false, false, false] rfl rfl (by kernel_rfl) (fun _ _ _ h => h) (Or.inl ⟨by rfl, ?_⟩) hHeld ?_ ?_
                 rotate_left
                 · rintro w' ⟨s0, s1, s2, s3⟩
                   go_simp
                   with_reducible rfl
                 rotate_left
                 · simp only [Act.put, List.setIfInBounds_toArray, List.set_cons_zero, List.set_cons_succ, i64_w, i32_w]
                   rfl
                 refine one_ (i := 2) (N := some 41) #[true, true, true, false, false] rfl rfl (by kernel_rfl) (by decide) (fun K hK => ?_)
                 refine goes_ Try.func75 (by kernel_rfl) rfl #[.agg #[.slice Ao25 t1200.length co25, .slice Ao27 t1203.length co27, .slice Ao29 t1206.length co29, .slice Ao31 t1209.length co31]] (by rfl) rfl rfl z1 ?_
                 with_reducible refine (spec_l2Best.calls k1 _ _ t1200 _ _ t1203 _ _ t1206 _ _ t1209 t1217 _ ?side1 ?side2 ?side3 ?side4 ?side5 ?side6 ?side7 ?side8 A17.out).mono ?_
                 (case side1 => exact zC (Kd.R_reads' HO1202.out).2.2)
                 (case side2 => exact (Kd.R_reads' HO1202.out).2.1)
                 (case side3 => exact zC (Kd.R_reads' HO1205.out).2.2)
                 (case side4 => exact (Kd.R_reads' HO1205.out).2.1)
                 (case side5 => exact zC (Kd.R_reads' HO1208.out).2.2)
                 (case side6 => exact (Kd.R_reads' HO1208.out).2.1)
                 (case side7 => exact zC (Kd.R_reads' HO1211.out).2.2)
                 (case side8 => exact (Kd.R_reads' HO1211.out).2.1)
                 rintro e w37 ⟨v1218, rfl, ho0, hb⟩
                 refine ⟨_, rfl, ?_⟩
                 have n0_ := Aside0.mk (Kd.N_elder' (zN HO_4.out) (Kd.R_base ho0) hb)
                 have n1_ := Aside0.mk (Kd.V_elder' (zV HO_5.out) (Kd.R_base ho0) hb)
                 have n2_ := Aside0.mk (Kd.V_elder' (zV HO_1194000.out) (Kd.R_base ho0) hb)
                 have n3_ := Aside0.mk (Kd.R_elder' (zR HO1202.out) (Kd.R_base ho0) hb)
                 have n4_ := Aside0.mk (Kd.R_elder' (zR HO1205.out) (Kd.R_base ho0) hb)
                 have n5_ := Aside0.mk (Kd.R_elder' (zR HO1208.out) (Kd.R_base ho0) hb)
                 have n6_ := Aside0.mk (Kd.R_elder' (zR HO1211.out) (Kd.R_base ho0) hb)
                 have n7_ := Aside0.mk (Kd.R_lower (Kd.R_new' (Kd.R_new' (Kd.R_new' (Kd.R_new' (Kd.R_newM (M := fun k_ => (w.heap.size ≤ k_)) ho0 (below_size (zH2 GE1193.out GE1212.out)) (fun k_ h_ => h_)) (Kd.R_lt (zR HO1202.out))) (Kd.R_lt (zR HO1205.out))) (Kd.R_lt (zR HO1208.out))) (Kd.R_lt (zR HO1211.out))) (below_size (zH2 GE1193.out GE1212.out)))
                 have n8_ := Aside0.mk (blk_below (g := gb1193) (o := .cells #[.slice A0_0 l0_0.length c0_0, .slice (some ad1198) l0_1.length c0_1, .slice (some ad1199) l0_2.length c0_2] 26 (0, 0)) (zB BK1193.out) hb)
                 have n9_ := Aside0.mk (blk_below (g := gb1212) (o := .cells #[.slice Ao25 t1200.length co25, .slice Ao27 t1203.length co27, .slice Ao29 t1206.length co29, .slice Ao31 t1209.length co31] 49 (0, 0)) (zB BK1212.out) hb)
                 have n10_ := Aside0.mk (below_step (zH2 GE1193.out GE1212.out) hb)
                 clear HO_4
                 clear HO_5
                 clear HO_1194000
                 clear HO1202
                 clear HO1205
                 clear HO1208
                 clear HO1211
                 clear BK1193
                 clear BK1212
                 clear HB
                 have HO_4 := n0_
                 have HO_5 := n1_
                 have HO_1194000 := n2_
                 have HO1202 := n3_
                 have HO1205 := n4_
                 have HO1208 := n5_
                 have HO1211 := n6_
                 have HO1219 := n7_
                 have BK1193 := n8_
                 have BK1212 := n9_
                 have HB := n10_
                 clear n0_ n1_ n2_ n3_ n4_ n5_ n6_ n7_ n8_ n9_ n10_
                 (try clear hb)
                 (try clear hb2)
                 (try clear hk)
                 (try clear hi)
                 (try clear ho0)
                 obtain ⟨Ao38, co38, eo38⟩ := Kd.R_slice HO1219.out
                 (first | subst eo38 | (injection eo38 with f1_ f2_ f3_; have f4_ := f1_.symm; have f5_ := f3_.symm; clear f1_ f2_ f3_; subst f4_; subst f5_))
                 refine hK.out _ _ ⟨(blk_cell BK1212.out 0).trans rfl, (blk_cell BK1212.out 1).trans rfl, (blk_cell BK1212.out 2).trans rfl, (blk_cell BK1212.out 3).trans rfl⟩ (fun hHeld => ?_)
                 clear hK K
                 refine norm_ (a' := ?_) ?_ ?_
                 rotate_left
                 · show Act.put _ (some 41) _ = _
                   simp only [Act.put, List.setIfInBounds_toArray, List.set_cons_zero, List.set_cons_succ, i64_w, i32_w]
                   rfl
                 refine one_ (i := 3) (N := some 42) #[true, true, true, true, false] rfl rfl (by kernel_rfl) (by decide) (fun K hK => ?_)
                 refine goes_ Try.func74 (by kernel_rfl) rfl #[.agg #[.slice Ao25 t1200.length co25, .slice Ao27 t1203.length co27, .slice Ao29 t1206.length co29, .slice Ao31 t1209.length co31], .slice Ao38 t1217.length co38] (by rfl) rfl rfl z1 ?_
                 with_reducible refine (spec_l2From.calls k1 _ _ t1200 _ _ t1203 _ _ t1206 _ _ t1209 _ _ t1217 t1220 _ ?side1 ?side2 ?side3 ?side4 ?side5 ?side6 ?side7 ?side8 ?side9 ?side10 A18.out).mono ?_
                 (case side1 => exact zC (Kd.R_reads' HO1202.out).2.2)
                 (case side2 => exact (Kd.R_reads' HO1202.out).2.1)
                 (case side3 => exact zC (Kd.R_reads' HO1205.out).2.2)
                 (case side4 => exact (Kd.R_reads' HO1205.out).2.1)
                 (case side5 => exact zC (Kd.R_reads' HO1208.out).2.2)
                 (case side6 => exact (Kd.R_reads' HO1208.out).2.1)
                 (case side7 => exact zC (Kd.R_reads' HO1211.out).2.2)
                 (case side8 => exact (Kd.R_reads' HO1211.out).2.1)
                 (case side9 => exact zC (Kd.R_reads' HO1219.out).2.2)
                 (case side10 => exact (Kd.R_reads' HO1219.out).2.1)
                 rintro e w39 ⟨v1221, rfl, ho0, hb⟩
                 refine ⟨_, rfl, ?_⟩
                 have n0_ := Aside0.mk (Kd.N_elder' (zN HO_4.out) (Kd.R_base ho0) hb)
                 have n1_ := Aside0.mk (Kd.V_elder' (zV HO_5.out) (Kd.R_base ho0) hb)
                 have n2_ := Aside0.mk (Kd.V_elder' (zV HO_1194000.out) (Kd.R_base ho0) hb)
                 have n3_ := Aside0.mk (Kd.R_elder' (zR HO1202.out) (Kd.R_base ho0) hb)
                 have n4_ := Aside0.mk (Kd.R_elder' (zR HO1205.out) (Kd.R_base ho0) hb)
                 have n5_ := Aside0.mk (Kd.R_elder' (zR HO1208.out) (Kd.R_base ho0) hb)
                 have n6_ := Aside0.mk (Kd.R_elder' (zR HO1211.out) (Kd.R_base ho0) hb)
                 have n7_ := Aside0.mk (Kd.R_elder' (zR HO1219.out) (Kd.R_base ho0) hb)
                 have n8_ := Aside0.mk (Kd.R_lower (Kd.R_new' (Kd.R_new' (Kd.R_new' (Kd.R_new' (Kd.R_new' (Kd.R_newM (M := fun k_ => (w.heap.size ≤ k_)) ho0 (below_size (zH2 GE1193.out GE1212.out)) (fun k_ h_ => h_)) (Kd.R_lt (zR HO1202.out))) (Kd.R_lt (zR HO1205.out))) (Kd.R_lt (zR HO1208.out))) (Kd.R_lt (zR HO1211.out))) (Kd.R_lt (zR HO1219.out))) (below_size (zH2 GE1193.out GE1212.out)))
                 have n9_ := Aside0.mk (blk_below (g := gb1193) (o := .cells #[.slice A0_0 l0_0.length c0_0, .slice (some ad1198) l0_1.length c0_1, .slice (some ad1199) l0_2.length c0_2] 26 (0, 0)) (zB BK1193.out) hb)
                 have n10_ := Aside0.mk (blk_below (g := gb1212) (o := .cells #[.slice Ao25 t1200.length co25, .slice Ao27 t1203.length co27, .slice Ao29 t1206.length co29, .slice Ao31 t1209.length co31] 49 (0, 0)) (zB BK1212.out) hb)
                 have n11_ := Aside0.mk (below_step (zH2 GE1193.out GE1212.out) hb)
                 clear HO_4
                 clear HO_5
                 clear HO_1194000
                 clear HO1202
                 clear HO1205
                 clear HO1208
                 clear HO1211
                 clear HO1219
                 clear BK1193
                 clear BK1212
                 clear HB
                 have HO_4 := n0_
                 have HO_5 := n1_
                 have HO_1194000 := n2_
                 have HO1202 := n3_
                 have HO1205 := n4_
                 have HO1208 := n5_
                 have HO1211 := n6_
                 have HO1219 := n7_
                 have HO1222 := n8_
                 have BK1193 := n9_
                 have BK1212 := n10_
                 have HB := n11_
                 clear n0_ n1_ n2_ n3_ n4_ n5_ n6_ n7_ n8_ n9_ n10_ n11_
                 (try clear hb)
                 (try clear hb2)
                 (try clear hk)
                 (try clear hi)
                 (try clear ho0)
                 refine hK.out _ _ ⟨(blk_cell BK1212.out 0).trans rfl, (blk_cell BK1212.out 1).trans rfl, (blk_cell BK1212.out 2).trans rfl, (blk_cell BK1212.out 3).trans rfl⟩ (fun hHeld => ?_)
                 clear hK K
                 refine norm_ (a' := ?_) ?_ ?_
                 rotate_left
                 · show Act.put _ (some 42) _ = _
                   simp only [Act.put, List.setIfInBounds_toArray, List.set_cons_zero, List.set_cons_succ, i64_w, i32_w]
                   rfl
                 refine zP (i := 4) (N := some 5) #[true, true, true, true, true] (by kernel_rfl) ?_
                 refine done_ (by kernel_rfl) ?_
                 obtain ⟨Ao40, co40, eo40⟩ := Kd.R_slice HO1222.out
                 subst eo40
                 try go_wp2_with (first | ((with_reducible refine gate_dst (N := 44) rfl ?_); refine Kd.N_lit (Kd.slice 3 (Kd.int .i64)) _ 24 ?hg (N' := 44) ?hd (xs := ([t1220] : List (List Int))) (inner := [.slice Ao40 t1220.length co40]) (ok := (fun k_ => (P0_0_ k_ ∨ w.heap.size ≤ k_) ∧ some k_ ≠ (u4 : Value).ownBlock ∧ some k_ ≠ (.slice Ao25 t1200.length co25 : Value).ownBlock ∧ some k_ ≠ (.slice Ao27 t1203.length co27 : Value).ownBlock ∧ some k_ ≠ (.slice Ao29 t1206.length co29 : Value).ownBlock ∧ some k_ ≠ (.slice Ao31 t1209.length co31 : Value).ownBlock ∧ some k_ ≠ (.slice Ao38 t1217.length co38 : Value).ownBlock ∧ k_ ≠ gb1193 ∧ k_ ≠ gb1212)) (okp := (fun k_ => (P0_0_ k_ ∨ w.heap.size ≤ k_) ∧ some k_ ≠ (u4 : Value).ownBlock ∧ some k_ ≠ (.slice Ao25 t1200.length co25 : Value).ownBlock ∧ some k_ ≠ (.slice Ao27 t1203.length co27 : Value).ownBlock ∧ some k_ ≠ (.slice Ao29 t1206.length co29 : Value).ownBlock ∧ some k_ ≠ (.slice Ao31 t1209.length co31 : Value).ownBlock ∧ some k_ ≠ (.slice Ao38 t1217.length co38 : Value).ownBlock ∧ k_ ≠ gb1193 ∧ k_ ≠ gb1212)) ?hr ?hp (fun _ hk => hk) ((show ∀ k_, w39.heap.size ≤ k_ → (fun k_ => (P0_0_ k_ ∨ w.heap.size ≤ k_) ∧ some k_ ≠ (u4 : Value).ownBlock ∧ some k_ ≠ (.slice Ao25 t1200.length co25 : Value).ownBlock ∧ some k_ ≠ (.slice Ao27 t1203.length co27 : Value).ownBlock ∧ some k_ ≠ (.slice Ao29 t1206.length co29 : Value).ownBlock ∧ some k_ ≠ (.slice Ao31 t1209.length co31 : Value).ownBlock ∧ some k_ ≠ (.slice Ao38 t1217.length co38 : Value).ownBlock ∧ k_ ≠ gb1193 ∧ k_ ≠ gb1212) k_ from fun k_ hk => ⟨(.inr (Nat.le_trans (below_size (zH2 GE1193.out GE1212.out)) hk)), Kd.fresh' (Kd.N_lt (zN HO_4.out)) k_ hk, Kd.fresh' (Kd.R_lt (zR HO1202.out)) k_ hk, Kd.fresh' (Kd.R_lt (zR HO1205.out)) k_ hk, Kd.fresh' (Kd.R_lt (zR HO1208.out)) k_ hk, Kd.fresh' (Kd.R_lt (zR HO1211.out)) k_ hk, Kd.fresh' (Kd.R_lt (zR HO1219.out)) k_ hk, Kd.freshB (g := gb1193) (o := .cells #[.slice A0_0 l0_0.length c0_0, .slice (some ad1198) l0_1.length c0_1, .slice (some ad1199) l0_2.length c0_2] 26 (0, 0)) (zB BK1193.out) k_ hk, Kd.freshB (g := gb1212) (o := .cells #[.slice Ao25 t1200.length co25, .slice Ao27 t1203.length co27, .slice Ao29 t1206.length co29, .slice Ao31 t1209.length co31] 49 (0, 0)) (zB BK1212.out) k_ hk⟩) _ (Nat.le_refl _)) (Below.refl _ _) (Nat.le_refl _) (by simp) ?_; (case hd => rfl); (case hg => rfl); (case hr => first | (go_simp; done) | (go_simp; rfl)); (case hp => exact (Reps.one (show Kd.FK (Kd.slice 3 (Kd.int .i64)) _ _ t1220 [.slice Ao40 t1220.length co40] from (Kd.FK_slice_mk (Kd.R_reads' (Kd.R_mono (ok' := (fun k_ => (P0_0_ k_ ∨ w.heap.size ≤ k_) ∧ some k_ ≠ (u4 : Value).ownBlock ∧ some k_ ≠ (.slice Ao25 t1200.length co25 : Value).ownBlock ∧ some k_ ≠ (.slice Ao27 t1203.length co27 : Value).ownBlock ∧ some k_ ≠ (.slice Ao29 t1206.length co29 : Value).ownBlock ∧ some k_ ≠ (.slice Ao31 t1209.length co31 : Value).ownBlock ∧ some k_ ≠ (.slice Ao38 t1217.length co38 : Value).ownBlock ∧ k_ ≠ gb1193 ∧ k_ ≠ gb1212)) (Kd.R_types (Kd.R_types (Kd.R_apart' (HO1222.out) (Kd.N_typed HO_4.out) (by decide)) BK1193.out (by decide)) BK1212.out (by decide)) (fun k_ hk => ⟨(.inr (hk.1.1.1.1.1.1.1.1.1)), ⟨hk.1.1.2, ⟨hk.1.1.1.1.1.1.1.2, ⟨hk.1.1.1.1.1.1.2, ⟨hk.1.1.1.1.1.2, ⟨hk.1.1.1.1.2, ⟨hk.1.1.1.2, ⟨hk.1.2, hk.2⟩⟩⟩⟩⟩⟩⟩⟩))).2.1 (Kd.R_F (Kd.R_mono (ok' := (fun k_ => (P0_0_ k_ ∨ w.heap.size ≤ k_) ∧ some k_ ≠ (u4 : Value).ownBlock ∧ some k_ ≠ (.slice Ao25 t1200.length co25 : Value).ownBlock ∧ some k_ ≠ (.slice Ao27 t1203.length co27 : Value).ownBlock ∧ some k_ ≠ (.slice Ao29 t1206.length co29 : Value).ownBlock ∧ some k_ ≠ (.slice Ao31 t1209.length co31 : Value).ownBlock ∧ some k_ ≠ (.slice Ao38 t1217.length co38 : Value).ownBlock ∧ k_ ≠ gb1193 ∧ k_ ≠ gb1212)) (Kd.R_types (Kd.R_types (Kd.R_apart' (HO1222.out) (Kd.N_typed HO_4.out) (by decide)) BK1193.out (by decide)) BK1212.out (by decide)) (fun k_ hk => ⟨(.inr (hk.1.1.1.1.1.1.1.1.1)), ⟨hk.1.1.2, ⟨hk.1.1.1.1.1.1.1.2, ⟨hk.1.1.1.1.1.1.2, ⟨hk.1.1.1.1.1.2, ⟨hk.1.1.1.1.2, ⟨hk.1.1.1.2, ⟨hk.1.2, hk.2⟩⟩⟩⟩⟩⟩⟩⟩))))) (Reps.none _ _))); intro v1224 w41 ho42 hb hg_ hnew_; clear hg_ hnew_; (first | rw [← Ny1223.out] at ho42 | (simp only [Int.reduceToNat] at ho42; rw [← Ny1223.out] at ho42)); have nV_ := Aside0.mk (Kd.V_elder' (Kd.R_V (base' := w.heap.size) (Kd.R_mono (ok' := (fun k_ => (P0_0_ k_ ∨ w.heap.size ≤ k_) ∧ some k_ ≠ (u4 : Value).ownBlock ∧ some k_ ≠ (.slice Ao25 t1200.length co25 : Value).ownBlock ∧ some k_ ≠ (.slice Ao27 t1203.length co27 : Value).ownBlock ∧ some k_ ≠ (.slice Ao29 t1206.length co29 : Value).ownBlock ∧ some k_ ≠ (.slice Ao31 t1209.length co31 : Value).ownBlock ∧ some k_ ≠ (.slice Ao38 t1217.length co38 : Value).ownBlock ∧ k_ ≠ gb1193 ∧ k_ ≠ gb1212)) (Kd.R_types (Kd.R_types (Kd.R_apart' (HO1222.out) (Kd.N_typed HO_4.out) (by decide)) BK1193.out (by decide)) BK1212.out (by decide)) (fun k_ hk => ⟨(.inr (hk.1.1.1.1.1.1.1.1.1)), ⟨hk.1.1.2, ⟨hk.1.1.1.1.1.1.1.2, ⟨hk.1.1.1.1.1.1.2, ⟨hk.1.1.1.1.1.2, ⟨hk.1.1.1.1.2, ⟨hk.1.1.1.2, ⟨hk.1.2, hk.2⟩⟩⟩⟩⟩⟩⟩⟩))) (Kd.N_base ho42) hb); have n0_ := Aside0.mk (Kd.N_elder' (zN HO_4.out) (Kd.N_base ho42) hb); have n1_ := Aside0.mk (Kd.V_elder' (zV HO_5.out) (Kd.N_base ho42) hb); have n2_ := Aside0.mk (Kd.V_elder' (zV HO_1194000.out) (Kd.N_base ho42) hb); have n3_ := Aside0.mk (Kd.R_below (zR HO1202.out) hb); have n4_ := Aside0.mk (Kd.R_below (zR HO1205.out) hb); have n5_ := Aside0.mk (Kd.R_below (zR HO1208.out) hb); have n6_ := Aside0.mk (Kd.R_below (zR HO1211.out) hb); have n7_ := Aside0.mk (Kd.R_below (zR HO1219.out) hb); have n8_ := Aside0.mk (Kd.N_lower ho42 (below_size (zH2 GE1193.out GE1212.out))); have n9_ := Aside0.mk (blk_below (g := gb1193) (o := .cells #[.slice A0_0 l0_0.length c0_0, .slice (some ad1198) l0_1.length c0_1, .slice (some ad1199) l0_2.length c0_2] 26 (0, 0)) (zB BK1193.out) hb); have n10_ := Aside0.mk (blk_below (g := gb1212) (o := .cells #[.slice Ao25 t1200.length co25, .slice Ao27 t1203.length co27, .slice Ao29 t1206.length co29, .slice Ao31 t1209.length co31] 49 (0, 0)) (zB BK1212.out) hb); have n11_ := Aside0.mk (below_step (zH2 GE1193.out GE1212.out) hb); clear HO_4; clear HO_5; clear HO_1194000; clear HO1202; clear HO1205; clear HO1208; clear HO1211; clear HO1219; clear BK1193; clear BK1212; clear HB; clear HO1222; have HO1222 := nV_; clear nV_; have HO_4 := n0_; have HO_5 := n1_; have HO_1194000 := n2_; have HO1202 := n3_; have HO1205 := n4_; have HO1208 := n5_; have HO1211 := n6_; have HO1219 := n7_; have HO1225 := n8_; have BK1193 := n9_; have BK1212 := n10_; have HB := n11_; clear n0_ n1_ n2_ n3_ n4_ n5_ n6_ n7_ n8_ n9_ n10_ n11_; clear hb ho42; obtain ⟨Ao44, co44, eo44⟩ := Kd.N_slice HO_4.out; subst eo44) | ((with_reducible refine gate_builtin (b := .append) (xs := #[.tmp 44, .tmp 45]) rfl ?_); at_builtin; refine Kd.N_append_rows (Kd.slice 3 (Kd.int .i64)) (w0 := w) w.heap.size rfl (.tmp 44) (.tmp 45) 27 24 (.slice none 0 0) 24 rfl Try.underlying27 info24 rfl (by decide) (by omega) v1224 y1223 x4_1 _ _ _ (fun k_ => (P0_0_ k_ ∨ w.heap.size ≤ k_) ∧ some k_ ≠ (.slice Ao25 t1200.length co25 : Value).ownBlock ∧ some k_ ≠ (.slice Ao27 t1203.length co27 : Value).ownBlock ∧ some k_ ≠ (.slice Ao29 t1206.length co29 : Value).ownBlock ∧ some k_ ≠ (.slice Ao31 t1209.length co31 : Value).ownBlock ∧ some k_ ≠ (.slice Ao38 t1217.length co38 : Value).ownBlock ∧ k_ ≠ gb1193 ∧ k_ ≠ gb1212) (fun k_ => ((fun k_ => (P0_0_ k_ ∨ w.heap.size ≤ k_) ∧ some k_ ≠ (.slice Ao25 t1200.length co25 : Value).ownBlock ∧ some k_ ≠ (.slice Ao27 t1203.length co27 : Value).ownBlock ∧ some k_ ≠ (.slice Ao29 t1206.length co29 : Value).ownBlock ∧ some k_ ≠ (.slice Ao31 t1209.length co31 : Value).ownBlock ∧ some k_ ≠ (.slice Ao38 t1217.length co38 : Value).ownBlock ∧ k_ ≠ gb1193 ∧ k_ ≠ gb1212)) k_ ∧ some k_ ≠ (v1224 : Value).ownBlock) rfl rfl ?aO ?aR (fun _ hk => hk) ?aF ?aB ?aS ?aL ?_; (case aR => exact (by skip; exact Kd.N_F (Kd.N_mono (ok' := (fun k_ => ((fun k_ => (P0_0_ k_ ∨ w.heap.size ≤ k_) ∧ some k_ ≠ (.slice Ao25 t1200.length co25 : Value).ownBlock ∧ some k_ ≠ (.slice Ao27 t1203.length co27 : Value).ownBlock ∧ some k_ ≠ (.slice Ao29 t1206.length co29 : Value).ownBlock ∧ some k_ ≠ (.slice Ao31 t1209.length co31 : Value).ownBlock ∧ some k_ ≠ (.slice Ao38 t1217.length co38 : Value).ownBlock ∧ k_ ≠ gb1193 ∧ k_ ≠ gb1212)) k_ ∧ some k_ ≠ (v1224 : Value).ownBlock)) (HO_4.out) (fun k_ hk => ⟨⟨hk.1.1.1.1, ⟨hk.1.1.1.2.1, ⟨hk.1.1.1.2.2.1, ⟨hk.1.1.1.2.2.2.1, ⟨hk.1.1.1.2.2.2.2.1, ⟨hk.1.1.2, ⟨hk.1.1.1.2.2.2.2.2.1, hk.1.1.1.2.2.2.2.2.2⟩⟩⟩⟩⟩⟩⟩, hk.2⟩)))); (case aB => exact (zH2 GE1193.out GE1212.out)); (case aF => exact (fun k_ hk => ⟨(.inr (Nat.le_trans (below_size (zH2 GE1193.out GE1212.out)) hk)), Kd.fresh' (Kd.R_lt (zR HO1202.out)) k_ hk, Kd.fresh' (Kd.R_lt (zR HO1205.out)) k_ hk, Kd.fresh' (Kd.R_lt (zR HO1208.out)) k_ hk, Kd.fresh' (Kd.R_lt (zR HO1211.out)) k_ hk, Kd.fresh' (Kd.R_lt (zR HO1219.out)) k_ hk, Kd.freshB (g := gb1193) (o := .cells #[.slice A0_0 l0_0.length c0_0, .slice (some ad1198) l0_1.length c0_1, .slice (some ad1199) l0_2.length c0_2] 26 (0, 0)) (zB BK1193.out) k_ hk, Kd.freshB (g := gb1212) (o := .cells #[.slice Ao25 t1200.length co25, .slice Ao27 t1203.length co27, .slice Ao29 t1206.length co29, .slice Ao31 t1209.length co31] 49 (0, 0)) (zB BK1212.out) k_ hk⟩)); (case aO => exact (by (with_reducible repeat (first | apply Kd.N_alloc | apply Kd.N_drewN | apply Kd.N_drew)); exact Kd.N_mono HO1225.out (fun _ hk => ⟨hk.1, ⟨hk.2.2.1, ⟨hk.2.2.2.1, ⟨hk.2.2.2.2.1, ⟨hk.2.2.2.2.2.1, ⟨hk.2.2.2.2.2.2.1, ⟨hk.2.2.2.2.2.2.2.1, hk.2.2.2.2.2.2.2.2⟩⟩⟩⟩⟩⟩⟩))); (case aS => exact (below_size (zH2 GE1193.out GE1212.out))); (case aL => have := LMc19.out; omega); intro v1227 w43 ho hb hg hat; rw [← Ny1226.out] at ho; have nV_ := Aside0.mk (Kd.V_afterv (ok := (fun k_ => (P0_0_ k_ ∨ w.heap.size ≤ k_) ∧ k_ ≠ gb1193)) (by (with_reducible repeat (first | apply Kd.V_alloc | apply Kd.V_drewN | apply Kd.V_drew)); exact Kd.V_mono HO1222.out (fun _ hk => ⟨⟨hk.1.1, hk.1.2.2.2.2.2.2.2.1⟩, hk.2⟩)) hg hat); have n0_ := Aside0.mk (Kd.N_afterv (ok := (fun k_ => (P0_0_ k_ ∨ w.heap.size ≤ k_) ∧ some k_ ≠ (.slice Ao25 t1200.length co25 : Value).ownBlock ∧ some k_ ≠ (.slice Ao27 t1203.length co27 : Value).ownBlock ∧ some k_ ≠ (.slice Ao29 t1206.length co29 : Value).ownBlock ∧ some k_ ≠ (.slice Ao31 t1209.length co31 : Value).ownBlock ∧ some k_ ≠ (.slice Ao38 t1217.length co38 : Value).ownBlock ∧ k_ ≠ gb1193 ∧ k_ ≠ gb1212)) (by (with_reducible repeat (first | apply Kd.N_alloc | apply Kd.N_drewN | apply Kd.N_drew)); exact Kd.N_mono HO_4.out (fun _ hk => ⟨⟨hk.1.1.1.1, ⟨hk.1.1.1.2.1, ⟨hk.1.1.1.2.2.1, ⟨hk.1.1.1.2.2.2.1, ⟨hk.1.1.1.2.2.2.2.1, ⟨hk.1.1.2, ⟨hk.1.1.1.2.2.2.2.2.1, hk.1.1.1.2.2.2.2.2.2⟩⟩⟩⟩⟩⟩⟩, hk.2⟩)) hg hat); have n1_ := Aside0.mk (Kd.V_afterv (ok := (fun k_ => (P0_0_ k_ ∨ w.heap.size ≤ k_) ∧ some k_ ≠ (.slice Ao44 x4_1.length co44 : Value).ownBlock ∧ some k_ ≠ (.slice Ao25 t1200.length co25 : Value).ownBlock ∧ some k_ ≠ (.slice Ao27 t1203.length co27 : Value).ownBlock ∧ some k_ ≠ (.slice Ao29 t1206.length co29 : Value).ownBlock ∧ some k_ ≠ (.slice Ao31 t1209.length co31 : Value).ownBlock ∧ some k_ ≠ (.slice Ao38 t1217.length co38 : Value).ownBlock ∧ k_ ≠ gb1193 ∧ k_ ≠ gb1212)) (by (with_reducible repeat (first | apply Kd.V_alloc | apply Kd.V_drewN | apply Kd.V_drew)); exact Kd.V_mono HO_5.out (fun _ hk => ⟨⟨hk.1.1.1.1, ⟨hk.1.1.1.2.2.2.2.2.1, ⟨hk.1.1.1.2.1, ⟨hk.1.1.1.2.2.1, ⟨hk.1.1.1.2.2.2.1, ⟨hk.1.1.1.2.2.2.2.1, ⟨hk.1.1.2, ⟨hk.1.1.1.2.2.2.2.2.2.1, hk.1.1.1.2.2.2.2.2.2.2⟩⟩⟩⟩⟩⟩⟩⟩, hk.2⟩)) hg hat); have n2_ := Aside0.mk (Kd.V_afterv (ok := (fun k_ => (P0_0_ k_ ∨ w.heap.size ≤ k_) ∧ some k_ ≠ (.slice Ao44 x4_1.length co44 : Value).ownBlock ∧ some k_ ≠ (.slice Ao25 t1200.length co25 : Value).ownBlock ∧ some k_ ≠ (.slice Ao27 t1203.length co27 : Value).ownBlock ∧ some k_ ≠ (.slice Ao29 t1206.length co29 : Value).ownBlock ∧ some k_ ≠ (.slice Ao31 t1209.length co31 : Value).ownBlock ∧ some k_ ≠ (.slice Ao38 t1217.length co38 : Value).ownBlock ∧ k_ ≠ gb1193 ∧ k_ ≠ gb1212)) (by (with_reducible repeat (first | apply Kd.V_alloc | apply Kd.V_drewN | apply Kd.V_drew)); exact Kd.V_mono HO_1194000.out (fun _ hk => ⟨⟨hk.1.1.1.1, ⟨hk.1.1.1.2.2.2.2.2.1, ⟨hk.1.1.1.2.1, ⟨hk.1.1.1.2.2.1, ⟨hk.1.1.1.2.2.2.1, ⟨hk.1.1.1.2.2.2.2.1, ⟨hk.1.1.2, ⟨hk.1.1.1.2.2.2.2.2.2.1, hk.1.1.1.2.2.2.2.2.2.2⟩⟩⟩⟩⟩⟩⟩⟩, hk.2⟩)) hg hat); have n3_ := Aside0.mk (blk_grown (g := gb1193) (o := .cells #[.slice A0_0 l0_0.length c0_0, .slice (some ad1198) l0_1.length c0_1, .slice (some ad1199) l0_2.length c0_2] 26 (0, 0)) (zB BK1193.out) hg (Kd.N_ne HO1225.out BK1193.out (by decide))); have n4_ := Aside0.mk (Kd.R_over' (zR HO1202.out) (Kd.N_typed (zN HO1225.out)) (by decide) hg); have n5_ := Aside0.mk (Kd.R_over' (zR HO1205.out) (Kd.N_typed (zN HO1225.out)) (by decide) hg); have n6_ := Aside0.mk (Kd.R_over' (zR HO1208.out) (Kd.N_typed (zN HO1225.out)) (by decide) hg); have n7_ := Aside0.mk (Kd.R_over' (zR HO1211.out) (Kd.N_typed (zN HO1225.out)) (by decide) hg); have n8_ := Aside0.mk (blk_grown (g := gb1212) (o := .cells #[.slice Ao25 t1200.length co25, .slice Ao27 t1203.length co27, .slice Ao29 t1206.length co29, .slice Ao31 t1209.length co31] 49 (0, 0)) (zB BK1212.out) hg (Kd.N_ne HO1225.out BK1212.out (by decide))); have n9_ := Aside0.mk (Kd.R_over' (zR HO1219.out) (Kd.N_typed (zN HO1225.out)) (by decide) hg); have n10_ := Aside0.mk (hb); have n11_ := Aside0.mk (ho); clear HO_4; clear HO_5; clear HO_1194000; clear BK1193; clear HO1202; clear HO1205; clear HO1208; clear HO1211; clear BK1212; clear HO1219; clear HB; clear HO1225; have HO_4 := n0_; have HO_5 := n1_; have HO_1194000 := n2_; have BK1193 := n3_; have HO1202 := n4_; have HO1205 := n5_; have HO1208 := n6_; have HO1211 := n7_; have BK1212 := n8_; have HO1219 := n9_; have HB := n10_; have HO1228 := n11_; clear HO1222; have HO1222 := nV_; clear nV_; clear n0_ n1_ n2_ n3_ n4_ n5_ n6_ n7_ n8_ n9_ n10_ n11_; clear ho hb hg hat))
                 go_roundg k1
                 case measure => have := HK1.out; omega
                 case rel => exact ⟨(y1226), (t1220), (wrap64 (x6_1 - 1)), z3, H', ⟨by have := HK1.out; omega⟩, ⟨by (with_reducible repeat (first | apply Kd.N_alloc | apply Kd.N_drewN | apply Kd.N_drew)); exact Kd.N_mono HO1228.out (fun _ hk => ⟨hk.1, hk.2.2.2.2.2.2.1⟩)⟩, ⟨by (with_reducible repeat (first | apply Kd.V_alloc | apply Kd.V_drewN | apply Kd.V_drew)); exact Kd.V_mono HO1222.out (fun _ hk => ⟨hk.1.1, ⟨hk.2, hk.1.2⟩⟩)⟩, ⟨by (with_reducible repeat (first | apply Kd.V_alloc | apply Kd.V_drewN | apply Kd.V_drew)); exact Kd.V_mono HO_1194000.out (fun _ hk => ⟨hk.1.1, ⟨hk.2, hk.1.2.2.2.2.2.2.2.1⟩⟩)⟩, ⟨by (with_reducible repeat (first | refine blk_drewN ?_ _ | refine blk_drew ?_ | refine blk_alloc ?_ _)); exact BK1193.out⟩, ⟨by repeat (first | (with_reducible first | exact HB.out | apply below_alloc | apply pw_below_drewN | apply below_drew1 | refine below_set ?_ GE1193.out | refine below_set ?_ GE1212.out) | exact HB.out)⟩⟩
               · rw [if_neg c19] at H
                 exact absurd H (by simp)
             · replace c16 := Bool.eq_false_iff.mpr c16
               subst c16
               have H1 : (some ((([] : List (List Int))), false)) = some (r1, r2) := by rw [if_neg (show ¬ (false = true) by decide)] at H; exact H
               clear H
               have H := H1
               clear H1
               obtain ⟨y1214, hy1214⟩ : ∃ y_ : List (List Int), y_ = (([] : List (List Int))) := ⟨_, rfl⟩
               replace H : (some (y1214, false)) = some (r1, r2) := by first | (rw [hy1214]; with_reducible exact H) | (have H2_ := (Option.bind_some _ _).symm.trans H; rw [hy1214]; with_reducible exact H2_) | (have H2_ := (Option.bind_some _ _).symm.trans H; with_reducible exact H2_) | with_reducible exact H | (rw [hy1214]; exact H) | exact H
               have Ny1214 := Aside0.mk hy1214
               clear hy1214
               simp only [Option.some.injEq, Prod.mk.injEq] at H
               obtain ⟨rfl, rfl⟩ := H
               obtain ⟨Ao45, co45, eo45⟩ := Kd.V_slice HO_5.out
               subst eo45
               try go_wp2
               have n0_ := Aside0.mk (Kd.N_drew HO_4.out)
               have n1_ := Aside0.mk (Kd.V_drew HO_5.out)
               have n2_ := Aside0.mk (Kd.V_drew HO_1194000.out)
               have n3_ := Aside0.mk (blk_drew BK1193.out)
               have n4_ := Aside0.mk (below_drew1 HB.out)
               clear HO_4
               clear HO_5
               clear HO_1194000
               clear BK1193
               clear HB
               have HO_4 := n0_
               have HO_5 := n1_
               have HO_1194000 := n2_
               have BK1193 := n3_
               have HB := n4_
               clear n0_ n1_ n2_ n3_ n4_
               have p1198 : 0 ≤ (x6_1 : Int) := of_decide_eq_true z2
               have q1198 : x6_1 < (l0_1.length : Int) := of_decide_eq_true z2
               obtain ⟨ad1198, e1198, hx1198_0⟩ := Kd.at_int HR0_1.out x6_1 p1198 q1198
               have hw1198_0 := hx1198_0
               cases e1198
               replace hx1198_0 := (HB.out.cell (World.block_lt_of_cell? w _ hx1198_0)).trans hx1198_0
               replace p1198 := eq_true p1198
               replace q1198 := eq_true q1198
               have p1199 : 0 ≤ (x6_1 : Int) := of_decide_eq_true z2
               have q1199 : x6_1 < (l0_2.length : Int) := of_decide_eq_true z2
               obtain ⟨ad1199, e1199, hx1199_0⟩ := Kd.at_int HR0_2.out x6_1 p1199 q1199
               have hw1199_0 := hx1199_0
               cases e1199
               replace hx1199_0 := (HB.out.cell (World.block_lt_of_cell? w _ hx1199_0)).trans hx1199_0
               replace p1199 := eq_true p1199
               replace q1199 := eq_true q1199
               refine start_ (n := 14) (S := fun w' => w'.cell? ⟨gb1193, 0, none⟩ = some (.slice A0_0 l0_0.length c0_0) ∧ w'.cell? ⟨gb1193, 1, none⟩ = some (.slice (some ad1198) l0_1.length c0_1) ∧ w'.cell? ⟨gb1193, 2, none⟩ = some (.slice (some ad1199) l0_2.length c0_2) ∧ w'.cell? (ad1198.add (x6_1).toNat) = some (.int .i64 (rd l0_1 x6_1)) ∧ w'.cell? (ad1199.add (x6_1).toNat) = some (.int .i64 (rd l0_2 x6_1))) (ds := []) #[false, false, false, false, false, false, false, false, false, false, false, false, false, false] (by kernel_rfl) rfl rfl ⟨(blk_cell BK1193.out 0).trans rfl, (blk_cell BK1193.out 1).trans rfl, (blk_cell BK1193.out 2).trans rfl, ((HB.out.cell (World.block_lt_of_cell? w _ hw1198_0)).trans hw1198_0), ((HB.out.cell (World.block_lt_of_cell? w _ hw1199_0)).trans hw1199_0)⟩ (fun hHeld => ?_); refine with_tabW spec_StagewisePlan.tab8 spec_StagewisePlan.bits8 (fun HT_ HW_ => ?_)
               generalize wr.drew = w46 at HO_4 HO_5 HO_1194000 BK1193 HB hx1198_0 hx1199_0 hHeld ⊢
               refine zP (i := 0) (N := some 23) #[true, false, false, false, false, false, false, false, false, false, false, false, false, false] (any_of HT_.out (by kernel_rfl)) ?_
               refine zP (i := 1) (N := some 24) #[true, true, false, false, false, false, false, false, false, false, false, false, false, false] (any_of HT_.out (by kernel_rfl)) ?_
               refine zP (i := 3) (N := some 26) #[true, true, false, true, false, false, false, false, false, false, false, false, false, false] (any_of HT_.out (by kernel_rfl)) ?_
               refine zP (i := 6) (N := some 29) #[true, true, false, true, false, false, true, false, false, false, false, false, false, false] (any_of HT_.out (by kernel_rfl)) ?_
               refine zP (i := 8) (N := some 31) #[true, true, false, true, false, false, true, false, true, false, false, false, false, false] (any_of HT_.out (by kernel_rfl)) ?_
               refine take_ (i := 2) (N := some 25) (v := ?_) (a' := ?_) #[true, true, true, true, false, false, true, false, true, false, false, false, false, false] rfl rfl (take_ofW HT_.out HW_.out (by kernel_rfl)) (fun _ _ _ h => h) (Or.inl ⟨by rfl, ?_⟩) hHeld ?_ ?_
               rotate_left
               · rintro w' ⟨s0, s1, s2, s3, s4⟩
                 go_simp
                 with_reducible rfl
               rotate_left
               · simp only [Act.put, List.setIfInBounds_toArray, List.set_cons_zero, List.set_cons_succ, i64_w, i32_w]
                 rfl
               refine zP (i := 4) (N := some 27) #[true, true, true, true, true, false, true, false, true, false, false, false, false, false] (any_of HT_.out (by kernel_rfl)) ?_
               refine take_ (i := 5) (N := some 28) (v := ?_) (a' := ?_) #[true, true, true, true, true, true, true, false, true, false, false, false, false, false] rfl rfl (take_ofW HT_.out HW_.out (by kernel_rfl)) (fun _ _ _ h => h) (Or.inl ⟨by rfl, ?_⟩) hHeld ?_ ?_
               rotate_left
               · rintro w' ⟨s0, s1, s2, s3, s4⟩
                 go_simp
                 with_reducible rfl
               rotate_left
               · simp only [Act.put, List.setIfInBounds_toArray, List.set_cons_zero, List.set_cons_succ, i64_w, i32_w]
                 rfl
               refine take_ (i := 7) (N := some 30) (v := ?_) (a' := ?_) #[true, true, true, true, true, true, true, true, true, false, false, false, false, false] rfl rfl (take_ofW HT_.out HW_.out (by kernel_rfl)) (fun _ _ _ h => h) (Or.inl ⟨by rfl, ?_⟩) hHeld ?_ ?_
               rotate_left
               · rintro w' ⟨s0, s1, s2, s3, s4⟩
                 go_simp
                 with_reducible rfl
               rotate_left
               · simp only [Act.put, List.setIfInBounds_toArray, List.set_cons_zero, List.set_cons_succ, i64_w, i32_w]
                 rfl
               refine zP (i := 9) (N := some 32) #[true, true, true, true, true, true, true, true, true, true, false, false, false, false] (any_of HT_.out (by kernel_rfl)) ?_
               refine take_ (i := 10) (N := some 33) (v := ?_) (a' := ?_) #[true, true, true, true, true, true, true, true, true, true, true, false, false, false] rfl rfl (take_ofW HT_.out HW_.out (by kernel_rfl)) (fun _ _ _ h => h) (Or.inl ⟨by rfl, ?_⟩) hHeld ?_ ?_
               rotate_left
               · rintro w' ⟨s0, s1, s2, s3, s4⟩
                 go_simp
                 with_reducible rfl
               rotate_left
               · simp only [Act.put, List.setIfInBounds_toArray, List.set_cons_zero, List.set_cons_succ, i64_w, i32_w]
                 rfl
               refine join_ (σ := Value × Value × Value × Value × Nat) 1 #[true, true, true, true, true, true, true, true, true, true, true, true, true, false] (fun s_ => [(34, .agg #[s_.1, s_.2.1, s_.2.2.1, s_.2.2.2.1]), (7, .pointer (some ⟨s_.2.2.2.2, 0, none⟩))]) (fun s_ w' => (w'.cell? ⟨gb1193, 0, none⟩ = some (.slice A0_0 l0_0.length c0_0) ∧ w'.cell? ⟨gb1193, 1, none⟩ = some (.slice (some ad1198) l0_1.length c0_1) ∧ w'.cell? ⟨gb1193, 2, none⟩ = some (.slice (some ad1199) l0_2.length c0_2) ∧ w'.cell? (ad1198.add (x6_1).toNat) = some (.int .i64 (rd l0_1 x6_1)) ∧ w'.cell? (ad1199.add (x6_1).toNat) = some (.int .i64 (rd l0_2 x6_1))) ∧ (Kd.R (Kd.int .i64) 3 w' w.heap.size (fun k_ => (w.heap.size ≤ k_) ∧ some k_ ≠ (s_.2.1 : Value).ownBlock ∧ some k_ ≠ (s_.2.2.1 : Value).ownBlock ∧ some k_ ≠ (s_.2.2.2.1 : Value).ownBlock) s_.1 t1200) ∧ (Kd.R (Kd.int .i64) 3 w' w.heap.size (fun k_ => (w.heap.size ≤ k_) ∧ some k_ ≠ (s_.1 : Value).ownBlock ∧ some k_ ≠ (s_.2.2.1 : Value).ownBlock ∧ some k_ ≠ (s_.2.2.2.1 : Value).ownBlock) s_.2.1 t1203) ∧ (Kd.R (Kd.int .i64) 3 w' w.heap.size (fun k_ => (w.heap.size ≤ k_) ∧ some k_ ≠ (s_.1 : Value).ownBlock ∧ some k_ ≠ (s_.2.1 : Value).ownBlock ∧ some k_ ≠ (s_.2.2.2.1 : Value).ownBlock) s_.2.2.1 t1206) ∧ (Kd.R (Kd.int .i64) 3 w' w.heap.size (fun k_ => (w.heap.size ≤ k_) ∧ some k_ ≠ (s_.1 : Value).ownBlock ∧ some k_ ≠ (s_.2.1 : Value).ownBlock ∧ some k_ ≠ (s_.2.2.1 : Value).ownBlock) s_.2.2.2.1 t1209) ∧ (Kd.V (Kd.int .i64) 3 w' w.heap.size (fun k_ => (P0_0_ k_ ∨ w.heap.size ≤ k_) ∧ some k_ ≠ (s_.1 : Value).ownBlock ∧ some k_ ≠ (s_.2.1 : Value).ownBlock ∧ some k_ ≠ (s_.2.2.1 : Value).ownBlock ∧ some k_ ≠ (s_.2.2.2.1 : Value).ownBlock ∧ some k_ ≠ (u4 : Value).ownBlock ∧ k_ ≠ gb1193 ∧ k_ ≠ s_.2.2.2.2) (.slice A0_0 l0_0.length c0_0) l0_0) ∧ (Kd.N (Kd.slice 3 (Kd.int .i64)) 24 w' w.heap.size (fun k_ => (P0_0_ k_ ∨ w.heap.size ≤ k_) ∧ some k_ ≠ (s_.1 : Value).ownBlock ∧ some k_ ≠ (s_.2.1 : Value).ownBlock ∧ some k_ ≠ (s_.2.2.1 : Value).ownBlock ∧ some k_ ≠ (s_.2.2.2.1 : Value).ownBlock ∧ k_ ≠ gb1193 ∧ k_ ≠ s_.2.2.2.2) u4 x4_1) ∧ (Kd.V (Kd.int .i64) 3 w' w.heap.size (fun k_ => (P0_0_ k_ ∨ w.heap.size ≤ k_) ∧ some k_ ≠ (s_.1 : Value).ownBlock ∧ some k_ ≠ (s_.2.1 : Value).ownBlock ∧ some k_ ≠ (s_.2.2.1 : Value).ownBlock ∧ some k_ ≠ (s_.2.2.2.1 : Value).ownBlock ∧ some k_ ≠ (u4 : Value).ownBlock ∧ k_ ≠ gb1193 ∧ k_ ≠ s_.2.2.2.2) (.slice Ao45 x5_1.length co45) x5_1) ∧ (w'.heap[gb1193]? = some (.cells #[.slice A0_0 l0_0.length c0_0, .slice (some ad1198) l0_1.length c0_1, .slice (some ad1199) l0_2.length c0_2] 26 (0, 0))) ∧ (w'.heap[s_.2.2.2.2]? = some (.cells #[.slice none 0 0, .slice none 0 0, .slice none 0 0, .slice none 0 0] 49 (0, 0))) ∧ (w.heap.size ≤ s_.2.2.2.2) ∧ (w.heap.size ≤ s_.2.2.2.2) ∧ (gb1193 ≠ s_.2.2.2.2) ∧ (s_.2.2.2.2 ≠ gb1193) ∧ (Below w.heap.size w w')) ?_ ?_
               rotate_left
               · intro hCont
                 refine two_ (i := 11) (j := 12) (Ni := some 34) (Nj := some 7) #[true, true, true, true, true, true, true, true, true, true, true, true, false, false] #[true, true, true, true, true, true, true, true, true, true, true, false, true, false] rfl rfl rfl rfl (two_of HT_.out (by kernel_rfl)) (by decide) (by decide) (fun K hK => ?_) (fun K hK => ?_)
                 · skip
                   refine goes_ Try.func72 (by kernel_rfl) rfl #[.slice Ao45 x5_1.length co45, .int .i64 (rd l0_1 x6_1), .int .i64 (rd l0_2 x6_1)] (by rfl) rfl rfl z1 ?_
                   with_reducible refine (spec_l7Case.calls k1 _ _ x5_1 (rd l0_1 x6_1) (rd l0_2 x6_1) t1200 t1203 t1206 t1209 _ ?side1 ?side2 A14.out).mono ?_
                   (case side1 => exact zC (Kd.V_reads' HO_5.out).2.2)
                   (case side2 => exact (Kd.V_reads' HO_5.out).2.1)
                   rintro e w47 ⟨v1201, v1204, v1207, v1210, rfl, ho0, ho1, ho2, ho3, hb⟩
                   refine ⟨_, rfl, ?_⟩
                   have n0_ := Aside0.mk (Kd.N_mono (Kd.N_told (Kd.N_told (Kd.N_told (Kd.N_told (Kd.N_old (zN HO_4.out) hb) (Kd.R_base ho0)) (Kd.R_base ho1)) (Kd.R_base ho2)) (Kd.R_base ho3)) (fun _ h_ => h_.1))
                   have n1_ := Aside0.mk (Kd.V_mono (Kd.V_told (Kd.V_told (Kd.V_told (Kd.V_told (Kd.V_old (zV HO_5.out) hb) (Kd.R_base ho0)) (Kd.R_base ho1)) (Kd.R_base ho2)) (Kd.R_base ho3)) (fun _ h_ => h_.1))
                   have n2_ := Aside0.mk (Kd.V_mono (Kd.V_told (Kd.V_told (Kd.V_told (Kd.V_told (Kd.V_old (zV HO_1194000.out) hb) (Kd.R_base ho0)) (Kd.R_base ho1)) (Kd.R_base ho2)) (Kd.R_base ho3)) (fun _ h_ => h_.1))
                   have n3_ := Aside0.mk (Kd.R_lower (Kd.R_newM (M := fun k_ => (w.heap.size ≤ k_)) ho0 (below_size (zH1 GE1193.out)) (fun k_ h_ => h_)) (below_size (zH1 GE1193.out)))
                   have n4_ := Aside0.mk (Kd.R_lower (Kd.R_newM (M := fun k_ => (w.heap.size ≤ k_)) ho1 (below_size (zH1 GE1193.out)) (fun k_ h_ => h_)) (below_size (zH1 GE1193.out)))
                   have n5_ := Aside0.mk (Kd.R_lower (Kd.R_newM (M := fun k_ => (w.heap.size ≤ k_)) ho2 (below_size (zH1 GE1193.out)) (fun k_ h_ => h_)) (below_size (zH1 GE1193.out)))
                   have n6_ := Aside0.mk (Kd.R_lower (Kd.R_newM (M := fun k_ => (w.heap.size ≤ k_)) ho3 (below_size (zH1 GE1193.out)) (fun k_ h_ => h_)) (below_size (zH1 GE1193.out)))
                   have n7_ := Aside0.mk (blk_below (g := gb1193) (o := .cells #[.slice A0_0 l0_0.length c0_0, .slice (some ad1198) l0_1.length c0_1, .slice (some ad1199) l0_2.length c0_2] 26 (0, 0)) (zB BK1193.out) hb)
                   have n8_ := Aside0.mk (below_step (zH1 GE1193.out) hb)
                   clear HO_4
                   clear HO_5
                   clear HO_1194000
                   clear BK1193
                   clear HB
                   have HO_4 := n0_
                   have HO_5 := n1_
                   have HO_1194000 := n2_
                   have HO1202 := n3_
                   have HO1205 := n4_
                   have HO1208 := n5_
                   have HO1211 := n6_
                   have BK1193 := n7_
                   have HB := n8_
                   clear n0_ n1_ n2_ n3_ n4_ n5_ n6_ n7_ n8_
                   (try clear hb)
                   (try clear hb2)
                   (try clear hk)
                   (try clear hi)
                   (try clear ho0)
                   (try clear ho1)
                   (try clear ho2)
                   (try clear ho3)
                   refine hK.out _ _ ⟨(blk_cell BK1193.out 0).trans rfl, (blk_cell BK1193.out 1).trans rfl, (blk_cell BK1193.out 2).trans rfl, ((HB.out.cell (World.block_lt_of_cell? w _ hw1198_0)).trans hw1198_0), ((HB.out.cell (World.block_lt_of_cell? w _ hw1199_0)).trans hw1199_0)⟩ (fun hHeld => ?_)
                   clear hK K
                   refine norm_ (a' := ?_) ?_ ?_
                   rotate_left
                   · show Act.put _ (some 34) _ = _
                     simp only [Act.put, List.setIfInBounds_toArray, List.set_cons_zero, List.set_cons_succ, i64_w, i32_w]
                     rfl
                   refine one_ (i := 12) (N := some 7) #[true, true, true, true, true, true, true, true, true, true, true, true, true, false] rfl rfl (one_of HT_.out (by kernel_rfl)) (by decide) (fun K hK => ?_)
                   refine box_step ?hg (N := 7) ?hd (cs := #[.slice none 0 0, .slice none 0 0, .slice none 0 0, .slice none 0 0]) (t := 49) ?hr ?_; (case hd => rfl); (case hg => rfl); (case hr => first | (go_simp; done) | (go_simp; rfl))
                   intro gb1212 hg w48 hbox hb
                   have n0_ := Aside0.mk (Kd.N_below (Kd.N_elderB (zN HO_4.out) gb1212 (Nat.le_of_eq hg.symm)) hb)
                   have n1_ := Aside0.mk (Kd.V_below (Kd.V_elderB (zV HO_5.out) gb1212 (Nat.le_of_eq hg.symm)) hb)
                   have n2_ := Aside0.mk (Kd.V_below (Kd.V_elderB (zV HO_1194000.out) gb1212 (Nat.le_of_eq hg.symm)) hb)
                   have n3_ := Aside0.mk (Kd.R_below (zR HO1202.out) hb)
                   have n4_ := Aside0.mk (Kd.R_below (zR HO1205.out) hb)
                   have n5_ := Aside0.mk (Kd.R_below (zR HO1208.out) hb)
                   have n6_ := Aside0.mk (Kd.R_below (zR HO1211.out) hb)
                   have n7_ := Aside0.mk (blk_below (g := gb1193) (o := .cells #[.slice A0_0 l0_0.length c0_0, .slice (some ad1198) l0_1.length c0_1, .slice (some ad1199) l0_2.length c0_2] 26 (0, 0)) (zB BK1193.out) hb)
                   have n8_ := Aside0.mk (below_step (zH1 GE1193.out) hb)
                   have n9_ := Aside0.mk (hbox)
                   have n10_ := Aside0.mk ((z37 : w.heap.size ≤ gb1212))
                   have n11_ := Aside0.mk ((z37 : w.heap.size ≤ gb1212))
                   have n12_ := Aside0.mk ((z22 : gb1193 ≠ gb1212))
                   have n13_ := Aside0.mk ((z23 : gb1212 ≠ gb1193))
                   clear HO_4
                   clear HO_5
                   clear HO_1194000
                   clear HO1202
                   clear HO1205
                   clear HO1208
                   clear HO1211
                   clear BK1193
                   clear HB
                   have HO_4 := n0_
                   have HO_5 := n1_
                   have HO_1194000 := n2_
                   have HO1202 := n3_
                   have HO1205 := n4_
                   have HO1208 := n5_
                   have HO1211 := n6_
                   have BK1193 := n7_
                   have HB := n8_
                   have BK1212 := n9_
                   have GW1212 := n10_
                   have GE1212 := n11_
                   have NB1193_1212 := n12_
                   have NB1212_1193 := n13_
                   clear n0_ n1_ n2_ n3_ n4_ n5_ n6_ n7_ n8_ n9_ n10_ n11_ n12_ n13_
                   clear hb hbox hg
                   refine hK.out _ _ ⟨(blk_cell BK1193.out 0).trans rfl, (blk_cell BK1193.out 1).trans rfl, (blk_cell BK1193.out 2).trans rfl, ((HB.out.cell (World.block_lt_of_cell? w _ hw1198_0)).trans hw1198_0), ((HB.out.cell (World.block_lt_of_cell? w _ hw1199_0)).trans hw1199_0)⟩ (fun hHeld => ?_)
                   clear hK K
                   refine norm_ (a' := ?_) ?_ ?_
                   rotate_left
                   · show Act.put _ (some 7) _ = _
                     simp only [Act.put, List.setIfInBounds_toArray, List.set_cons_zero, List.set_cons_succ, i64_w, i32_w]
                     rfl
                   exact norm_ z20 (hCont (v1201, v1204, v1207, v1210, gb1212) _ ⟨hHeld, (zR HO1202.out), (zR HO1205.out), (zR HO1208.out), (zR HO1211.out), (by (with_reducible repeat (first | apply Kd.V_alloc | apply Kd.V_drewN | apply Kd.V_drew)); exact Kd.V_mono HO_1194000.out (fun _ hk => ⟨hk.1.1.1.1.1.1, ⟨hk.1.1.1.1.2, ⟨hk.1.1.1.2, ⟨hk.1.1.2, ⟨hk.1.2, ⟨hk.1.1.1.1.1.2.1, ⟨hk.1.1.1.1.1.2.2, hk.2⟩⟩⟩⟩⟩⟩⟩)), (by (with_reducible repeat (first | apply Kd.N_alloc | apply Kd.N_drewN | apply Kd.N_drew)); exact Kd.N_mono HO_4.out (fun _ hk => ⟨hk.1.1.1.1.1.1, ⟨hk.1.1.1.1.2, ⟨hk.1.1.1.2, ⟨hk.1.1.2, ⟨hk.1.2, ⟨hk.1.1.1.1.1.2, hk.2⟩⟩⟩⟩⟩⟩)), z27, (zB BK1193.out), (zB BK1212.out), GW1212.out, GE1212.out, NB1193_1212.out, NB1212_1193.out, (zH2 GE1193.out GE1212.out)⟩)
                 · skip
                   refine box_step ?hg (N := 7) ?hd (cs := #[.slice none 0 0, .slice none 0 0, .slice none 0 0, .slice none 0 0]) (t := 49) ?hr ?_; (case hd => rfl); (case hg => rfl); (case hr => first | (go_simp; done) | (go_simp; rfl))
                   intro gb1212 hg w47 hbox hb
                   have n0_ := Aside0.mk (Kd.N_below (Kd.N_elderB (zN HO_4.out) gb1212 (Nat.le_of_eq hg.symm)) hb)
                   have n1_ := Aside0.mk (Kd.V_below (Kd.V_elderB (zV HO_5.out) gb1212 (Nat.le_of_eq hg.symm)) hb)
                   have n2_ := Aside0.mk (Kd.V_below (Kd.V_elderB (zV HO_1194000.out) gb1212 (Nat.le_of_eq hg.symm)) hb)
                   have n3_ := Aside0.mk (blk_below (g := gb1193) (o := .cells #[.slice A0_0 l0_0.length c0_0, .slice (some ad1198) l0_1.length c0_1, .slice (some ad1199) l0_2.length c0_2] 26 (0, 0)) (zB BK1193.out) hb)
                   have n4_ := Aside0.mk (below_step (zH1 GE1193.out) hb)
                   have n5_ := Aside0.mk (hbox)
                   have n6_ := Aside0.mk ((z37 : w.heap.size ≤ gb1212))
                   have n7_ := Aside0.mk ((z37 : w.heap.size ≤ gb1212))
                   have n8_ := Aside0.mk ((z22 : gb1193 ≠ gb1212))
                   have n9_ := Aside0.mk ((z23 : gb1212 ≠ gb1193))
                   clear HO_4
                   clear HO_5
                   clear HO_1194000
                   clear BK1193
                   clear HB
                   have HO_4 := n0_
                   have HO_5 := n1_
                   have HO_1194000 := n2_
                   have BK1193 := n3_
                   have HB := n4_
                   have BK1212 := n5_
                   have GW1212 := n6_
                   have GE1212 := n7_
                   have NB1193_1212 := n8_
                   have NB1212_1193 := n9_
                   clear n0_ n1_ n2_ n3_ n4_ n5_ n6_ n7_ n8_ n9_
                   clear hb hbox hg
                   refine hK.out _ _ ⟨(blk_cell BK1193.out 0).trans rfl, (blk_cell BK1193.out 1).trans rfl, (blk_cell BK1193.out 2).trans rfl, ((HB.out.cell (World.block_lt_of_cell? w _ hw1198_0)).trans hw1198_0), ((HB.out.cell (World.block_lt_of_cell? w _ hw1199_0)).trans hw1199_0)⟩ (fun hHeld => ?_)
                   clear hK K
                   refine norm_ (a' := ?_) ?_ ?_
                   rotate_left
                   · show Act.put _ (some 7) _ = _
                     simp only [Act.put, List.setIfInBounds_toArray, List.set_cons_zero, List.set_cons_succ, i64_w, i32_w]
                     rfl
                   refine one_ (i := 11) (N := some 34) #[true, true, true, true, true, true, true, true, true, true, true, true, true, false] rfl rfl (one_of HT_.out (by kernel_rfl)) (by decide) (fun K hK => ?_)
                   refine goes_ Try.func72 (by kernel_rfl) rfl #[.slice Ao45 x5_1.length co45, .int .i64 (rd l0_1 x6_1), .int .i64 (rd l0_2 x6_1)] (by rfl) rfl rfl z1 ?_
                   with_reducible refine (spec_l7Case.calls k1 _ _ x5_1 (rd l0_1 x6_1) (rd l0_2 x6_1) t1200 t1203 t1206 t1209 _ ?side1 ?side2 A14.out).mono ?_
                   (case side1 => exact zC (Kd.V_reads' HO_5.out).2.2)
                   (case side2 => exact (Kd.V_reads' HO_5.out).2.1)
                   rintro e w48 ⟨v1201, v1204, v1207, v1210, rfl, ho0, ho1, ho2, ho3, hb⟩
                   refine ⟨_, rfl, ?_⟩
                   have n0_ := Aside0.mk (Kd.N_mono (Kd.N_told (Kd.N_told (Kd.N_told (Kd.N_told (Kd.N_old (zN HO_4.out) hb) (Kd.R_base ho0)) (Kd.R_base ho1)) (Kd.R_base ho2)) (Kd.R_base ho3)) (fun _ h_ => h_.1))
                   have n1_ := Aside0.mk (Kd.V_mono (Kd.V_told (Kd.V_told (Kd.V_told (Kd.V_told (Kd.V_old (zV HO_5.out) hb) (Kd.R_base ho0)) (Kd.R_base ho1)) (Kd.R_base ho2)) (Kd.R_base ho3)) (fun _ h_ => h_.1))
                   have n2_ := Aside0.mk (Kd.V_mono (Kd.V_told (Kd.V_told (Kd.V_told (Kd.V_told (Kd.V_old (zV HO_1194000.out) hb) (Kd.R_base ho0)) (Kd.R_base ho1)) (Kd.R_base ho2)) (Kd.R_base ho3)) (fun _ h_ => h_.1))
                   have n3_ := Aside0.mk (Kd.R_lower (Kd.R_newM (M := fun k_ => (w.heap.size ≤ k_)) ho0 (below_size (zH2 GE1193.out GE1212.out)) (fun k_ h_ => h_)) (below_size (zH2 GE1193.out GE1212.out)))
                   have n4_ := Aside0.mk (Kd.R_lower (Kd.R_newM (M := fun k_ => (w.heap.size ≤ k_)) ho1 (below_size (zH2 GE1193.out GE1212.out)) (fun k_ h_ => h_)) (below_size (zH2 GE1193.out GE1212.out)))
                   have n5_ := Aside0.mk (Kd.R_lower (Kd.R_newM (M := fun k_ => (w.heap.size ≤ k_)) ho2 (below_size (zH2 GE1193.out GE1212.out)) (fun k_ h_ => h_)) (below_size (zH2 GE1193.out GE1212.out)))
                   have n6_ := Aside0.mk (Kd.R_lower (Kd.R_newM (M := fun k_ => (w.heap.size ≤ k_)) ho3 (below_size (zH2 GE1193.out GE1212.out)) (fun k_ h_ => h_)) (below_size (zH2 GE1193.out GE1212.out)))
                   have n7_ := Aside0.mk (blk_below (g := gb1193) (o := .cells #[.slice A0_0 l0_0.length c0_0, .slice (some ad1198) l0_1.length c0_1, .slice (some ad1199) l0_2.length c0_2] 26 (0, 0)) (zB BK1193.out) hb)
                   have n8_ := Aside0.mk (blk_below (g := gb1212) (o := .cells #[.slice none 0 0, .slice none 0 0, .slice none 0 0, .slice none 0 0] 49 (0, 0)) (zB BK1212.out) hb)
                   have n9_ := Aside0.mk (below_step (zH2 GE1193.out GE1212.out) hb)
                   clear HO_4
                   clear HO_5
                   clear HO_1194000
                   clear BK1193
                   clear BK1212
                   clear HB
                   have HO_4 := n0_
                   have HO_5 := n1_
                   have HO_1194000 := n2_
                   have HO1202 := n3_
                   have HO1205 := n4_
                   have HO1208 := n5_
                   have HO1211 := n6_
                   have BK1193 := n7_
                   have BK1212 := n8_
                   have HB := n9_
                   clear n0_ n1_ n2_ n3_ n4_ n5_ n6_ n7_ n8_ n9_
                   (try clear hb)
                   (try clear hb2)
                   (try clear hk)
                   (try clear hi)
                   (try clear ho0)
                   (try clear ho1)
                   (try clear ho2)
                   (try clear ho3)
                   refine hK.out _ _ ⟨(blk_cell BK1193.out 0).trans rfl, (blk_cell BK1193.out 1).trans rfl, (blk_cell BK1193.out 2).trans rfl, ((HB.out.cell (World.block_lt_of_cell? w _ hw1198_0)).trans hw1198_0), ((HB.out.cell (World.block_lt_of_cell? w _ hw1199_0)).trans hw1199_0)⟩ (fun hHeld => ?_)
                   clear hK K
                   refine norm_ (a' := ?_) ?_ ?_
                   rotate_left
                   · show Act.put _ (some 34) _ = _
                     simp only [Act.put, List.setIfInBounds_toArray, List.set_cons_zero, List.set_cons_succ, i64_w, i32_w]
                     rfl
                   exact norm_ z20 (hCont (v1201, v1204, v1207, v1210, gb1212) _ ⟨hHeld, (zR HO1202.out), (zR HO1205.out), (zR HO1208.out), (zR HO1211.out), (by (with_reducible repeat (first | apply Kd.V_alloc | apply Kd.V_drewN | apply Kd.V_drew)); exact Kd.V_mono HO_1194000.out (fun _ hk => ⟨hk.1.1.1.1.1.1, ⟨hk.1.1.1.2, ⟨hk.1.1.2, ⟨hk.1.2, ⟨hk.2, ⟨hk.1.1.1.1.1.2.1, ⟨hk.1.1.1.1.1.2.2, hk.1.1.1.1.2⟩⟩⟩⟩⟩⟩⟩)), (by (with_reducible repeat (first | apply Kd.N_alloc | apply Kd.N_drewN | apply Kd.N_drew)); exact Kd.N_mono HO_4.out (fun _ hk => ⟨hk.1.1.1.1.1.1, ⟨hk.1.1.1.2, ⟨hk.1.1.2, ⟨hk.1.2, ⟨hk.2, ⟨hk.1.1.1.1.1.2, hk.1.1.1.1.2⟩⟩⟩⟩⟩⟩)), z26, (zB BK1193.out), (zB BK1212.out), GW1212.out, GE1212.out, NB1193_1212.out, NB1212_1193.out, (zH2 GE1193.out GE1212.out)⟩)
               rintro ⟨v1201, v1204, v1207, v1210, gb1212⟩ w49 ⟨hS_, h0_, h1_, h2_, h3_, h4_, h5_, h6_, h7_, h8_, h9_, h10_, h11_, h12_, h13_⟩
               have n0_ : Aside0 (Kd.R (Kd.int .i64) 3 w49 w.heap.size (fun k_ => (w.heap.size ≤ k_) ∧ some k_ ≠ (v1204 : Value).ownBlock ∧ some k_ ≠ (v1207 : Value).ownBlock ∧ some k_ ≠ (v1210 : Value).ownBlock) v1201 t1200) := ⟨h0_⟩
               have n1_ : Aside0 (Kd.R (Kd.int .i64) 3 w49 w.heap.size (fun k_ => (w.heap.size ≤ k_) ∧ some k_ ≠ (v1201 : Value).ownBlock ∧ some k_ ≠ (v1207 : Value).ownBlock ∧ some k_ ≠ (v1210 : Value).ownBlock) v1204 t1203) := ⟨h1_⟩
               have n2_ : Aside0 (Kd.R (Kd.int .i64) 3 w49 w.heap.size (fun k_ => (w.heap.size ≤ k_) ∧ some k_ ≠ (v1201 : Value).ownBlock ∧ some k_ ≠ (v1204 : Value).ownBlock ∧ some k_ ≠ (v1210 : Value).ownBlock) v1207 t1206) := ⟨h2_⟩
               have n3_ : Aside0 (Kd.R (Kd.int .i64) 3 w49 w.heap.size (fun k_ => (w.heap.size ≤ k_) ∧ some k_ ≠ (v1201 : Value).ownBlock ∧ some k_ ≠ (v1204 : Value).ownBlock ∧ some k_ ≠ (v1207 : Value).ownBlock) v1210 t1209) := ⟨h3_⟩
               have n4_ : Aside0 (Kd.V (Kd.int .i64) 3 w49 w.heap.size (fun k_ => (P0_0_ k_ ∨ w.heap.size ≤ k_) ∧ some k_ ≠ (v1201 : Value).ownBlock ∧ some k_ ≠ (v1204 : Value).ownBlock ∧ some k_ ≠ (v1207 : Value).ownBlock ∧ some k_ ≠ (v1210 : Value).ownBlock ∧ some k_ ≠ (u4 : Value).ownBlock ∧ k_ ≠ gb1193 ∧ k_ ≠ gb1212) (.slice A0_0 l0_0.length c0_0) l0_0) := ⟨h4_⟩
               have n5_ : Aside0 (Kd.N (Kd.slice 3 (Kd.int .i64)) 24 w49 w.heap.size (fun k_ => (P0_0_ k_ ∨ w.heap.size ≤ k_) ∧ some k_ ≠ (v1201 : Value).ownBlock ∧ some k_ ≠ (v1204 : Value).ownBlock ∧ some k_ ≠ (v1207 : Value).ownBlock ∧ some k_ ≠ (v1210 : Value).ownBlock ∧ k_ ≠ gb1193 ∧ k_ ≠ gb1212) u4 x4_1) := ⟨h5_⟩
               have n6_ : Aside0 (Kd.V (Kd.int .i64) 3 w49 w.heap.size (fun k_ => (P0_0_ k_ ∨ w.heap.size ≤ k_) ∧ some k_ ≠ (v1201 : Value).ownBlock ∧ some k_ ≠ (v1204 : Value).ownBlock ∧ some k_ ≠ (v1207 : Value).ownBlock ∧ some k_ ≠ (v1210 : Value).ownBlock ∧ some k_ ≠ (u4 : Value).ownBlock ∧ k_ ≠ gb1193 ∧ k_ ≠ gb1212) (.slice Ao45 x5_1.length co45) x5_1) := ⟨h6_⟩
               have n7_ : Aside0 (w49.heap[gb1193]? = some (.cells #[.slice A0_0 l0_0.length c0_0, .slice (some ad1198) l0_1.length c0_1, .slice (some ad1199) l0_2.length c0_2] 26 (0, 0))) := ⟨h7_⟩
               have n8_ : Aside0 (w49.heap[gb1212]? = some (.cells #[.slice none 0 0, .slice none 0 0, .slice none 0 0, .slice none 0 0] 49 (0, 0))) := ⟨h8_⟩
               have n9_ : Aside0 (w.heap.size ≤ gb1212) := ⟨h9_⟩
               have n10_ : Aside0 (w.heap.size ≤ gb1212) := ⟨h10_⟩
               have n11_ : Aside0 (gb1193 ≠ gb1212) := ⟨h11_⟩
               have n12_ : Aside0 (gb1212 ≠ gb1193) := ⟨h12_⟩
               have n13_ : Aside0 (Below w.heap.size w w49) := ⟨h13_⟩
               clear HO_4
               clear HO_5
               clear HO_1194000
               clear BK1193
               clear HB
               clear h0_ h1_ h2_ h3_ h4_ h5_ h6_ h7_ h8_ h9_ h10_ h11_ h12_ h13_
               have HO1202 := n0_
               have HO1205 := n1_
               have HO1208 := n2_
               have HO1211 := n3_
               have HO_1194000 := n4_
               have HO_4 := n5_
               have HO_5 := n6_
               have BK1193 := n7_
               have BK1212 := n8_
               have GW1212 := n9_
               have GE1212 := n10_
               have NB1193_1212 := n11_
               have NB1212_1193 := n12_
               have HB := n13_
               clear n0_ n1_ n2_ n3_ n4_ n5_ n6_ n7_ n8_ n9_ n10_ n11_ n12_ n13_
               have hHeld : w49.cell? ⟨gb1193, 0, none⟩ = some (.slice A0_0 l0_0.length c0_0) ∧ w49.cell? ⟨gb1193, 1, none⟩ = some (.slice (some ad1198) l0_1.length c0_1) ∧ w49.cell? ⟨gb1193, 2, none⟩ = some (.slice (some ad1199) l0_2.length c0_2) ∧ w49.cell? (ad1198.add (x6_1).toNat) = some (.int .i64 (rd l0_1 x6_1)) ∧ w49.cell? (ad1199.add (x6_1).toNat) = some (.int .i64 (rd l0_2 x6_1)) := hS_
               obtain ⟨Ao50, co50, eo50⟩ := Kd.R_slice HO1202.out
               (first | subst eo50 | (injection eo50 with f1_ f2_ f3_; have f4_ := f1_.symm; have f5_ := f3_.symm; clear f1_ f2_ f3_; subst f4_; subst f5_))
               obtain ⟨Ao52, co52, eo52⟩ := Kd.R_slice HO1205.out
               (first | subst eo52 | (injection eo52 with f1_ f2_ f3_; have f4_ := f1_.symm; have f5_ := f3_.symm; clear f1_ f2_ f3_; subst f4_; subst f5_))
               obtain ⟨Ao54, co54, eo54⟩ := Kd.R_slice HO1208.out
               (first | subst eo54 | (injection eo54 with f1_ f2_ f3_; have f4_ := f1_.symm; have f5_ := f3_.symm; clear f1_ f2_ f3_; subst f4_; subst f5_))
               obtain ⟨Ao56, co56, eo56⟩ := Kd.R_slice HO1211.out
               (first | subst eo56 | (injection eo56 with f1_ f2_ f3_; have f4_ := f1_.symm; have f5_ := f3_.symm; clear f1_ f2_ f3_; subst f4_; subst f5_))
               refine norm_ (a' := ?_) ?_ ?_
               rotate_left
               · simp only [putAll, Act.put, List.setIfInBounds_toArray, List.set_cons_zero, List.set_cons_succ]
                 rfl
               refine one_ (i := 13) (N := none) #[true, true, true, true, true, true, true, true, true, true, true, true, true, true] rfl rfl (one_of HT_.out (by kernel_rfl)) (by decide) (fun K hK => ?_)
               have hs51 : w49.cell? ⟨gb1212, 0, none⟩ = some (.slice none 0 0) := (blk_cell BK1212.out 0).trans rfl
               have hfs51 := blk_frozen BK1212.out 0
               have hns51_0 := NB1193_1212.out
               have hms51_0 := NB1212_1193.out
               have hs53 : w49.cell? ⟨gb1212, 1, none⟩ = some (.slice none 0 0) := (blk_cell BK1212.out 1).trans rfl
               have hfs53 := blk_frozen BK1212.out 1
               have hns53_0 := NB1193_1212.out
               have hms53_0 := NB1212_1193.out
               have hs55 : w49.cell? ⟨gb1212, 2, none⟩ = some (.slice none 0 0) := (blk_cell BK1212.out 2).trans rfl
               have hfs55 := blk_frozen BK1212.out 2
               have hns55_0 := NB1193_1212.out
               have hms55_0 := NB1212_1193.out
               have hs57 : w49.cell? ⟨gb1212, 3, none⟩ = some (.slice none 0 0) := (blk_cell BK1212.out 3).trans rfl
               have hfs57 := blk_frozen BK1212.out 3
               have hns57_0 := NB1193_1212.out
               have hms57_0 := NB1212_1193.out
               refine skip_ (w1 := ?_) (by rfl) rfl ?_ ?_
               rotate_left
               · go_simp
                 rfl
               refine hK.out _ _ ⟨((cell_far (p := ⟨gb1212, _, none⟩) NB1193_1212.out _).trans (((cell_far (p := ⟨gb1212, _, none⟩) NB1193_1212.out _).trans (((cell_far (p := ⟨gb1212, _, none⟩) NB1193_1212.out _).trans (((cell_far (p := ⟨gb1212, _, none⟩) NB1193_1212.out _).trans (hHeld.1)))))))), ((cell_far (p := ⟨gb1212, _, none⟩) NB1193_1212.out _).trans (((cell_far (p := ⟨gb1212, _, none⟩) NB1193_1212.out _).trans (((cell_far (p := ⟨gb1212, _, none⟩) NB1193_1212.out _).trans (((cell_far (p := ⟨gb1212, _, none⟩) NB1193_1212.out _).trans (hHeld.2.1)))))))), ((cell_far (p := ⟨gb1212, _, none⟩) NB1193_1212.out _).trans (((cell_far (p := ⟨gb1212, _, none⟩) NB1193_1212.out _).trans (((cell_far (p := ⟨gb1212, _, none⟩) NB1193_1212.out _).trans (((cell_far (p := ⟨gb1212, _, none⟩) NB1193_1212.out _).trans (hHeld.2.2.1)))))))), ((cell_far (p := ⟨gb1212, _, none⟩) z5 _).trans (((cell_far (p := ⟨gb1212, _, none⟩) z5 _).trans (((cell_far (p := ⟨gb1212, _, none⟩) z5 _).trans (((cell_far (p := ⟨gb1212, _, none⟩) z5 _).trans (hHeld.2.2.2.1)))))))), ((cell_far (p := ⟨gb1212, _, none⟩) z4 _).trans (((cell_far (p := ⟨gb1212, _, none⟩) z4 _).trans (((cell_far (p := ⟨gb1212, _, none⟩) z4 _).trans (((cell_far (p := ⟨gb1212, _, none⟩) z4 _).trans (hHeld.2.2.2.2))))))))⟩ (fun hHeld => ?_)
               clear hK K
               refine done_ (done_of HT_.out (by kernel_rfl)) ?_
               have hnb58 := NB1212_1193.out
               have hnc58 := NB1193_1212.out
               have hcz59_0 : w49.cell? ⟨gb1212, 0, none⟩ = some (.slice none 0 0) := (blk_cell BK1212.out 0).trans rfl
               have hcz59_1 : w49.cell? ⟨gb1212, 1, none⟩ = some (.slice none 0 0) := (blk_cell BK1212.out 1).trans rfl
               have hcz59_2 : w49.cell? ⟨gb1212, 2, none⟩ = some (.slice none 0 0) := (blk_cell BK1212.out 2).trans rfl
               have hcz59_3 : w49.cell? ⟨gb1212, 3, none⟩ = some (.slice none 0 0) := (blk_cell BK1212.out 3).trans rfl
               have hfz59_0 := blk_frozen BK1212.out 0
               have hfz59_1 := blk_frozen BK1212.out 1
               have hfz59_2 := blk_frozen BK1212.out 2
               have hfz59_3 := blk_frozen BK1212.out 3
               try go_wp2_with (first | ((with_reducible refine gate_callee (f := 73) rfl ?_); refine goesL_ (some 36) rfl rfl Try.func73 (by kernel_rfl) rfl #[.agg #[.slice Ao50 t1200.length co50, .slice Ao52 t1203.length co52, .slice Ao54 t1206.length co54, .slice Ao56 t1209.length co56]] rfl z1 ?_; (with_reducible refine (spec_l2Good.calls k1 _ _ t1200 _ _ t1203 _ _ t1206 _ _ t1209 false _ ?side1 ?side2 ?side3 ?side4 ?side5 ?side6 ?side7 ?side8 A15.out).mono ?_); (case side1 => refine (Kd.R_reads' (e := 3) (base := w.heap.size) (ok := fun k_ => ((w.heap.size ≤ k_) ∧ (some k_ ≠ (.slice Ao52 t1203.length co52 : Value).ownBlock ∧ (some k_ ≠ (.slice Ao54 t1206.length co54 : Value).ownBlock ∧ some k_ ≠ (.slice Ao56 t1209.length co56 : Value).ownBlock)))) (n := t1200.length) (c := co50) ?_).2.2; exact (by (with_reducible repeat (first | apply Kd.R_alloc | apply Kd.R_drewN | apply Kd.R_drew)); exact (Kd.R_mono (Kd.R_far (p := ⟨gb1212, 3, none⟩) (Kd.R_far (p := ⟨gb1212, 2, none⟩) (Kd.R_far (p := ⟨gb1212, 1, none⟩) (Kd.R_far (p := ⟨gb1212, 0, none⟩) (Kd.R_types HO1202.out BK1212.out (by decide)) (fun _ hk => hk.2) (.slice Ao50 t1200.length co50)) (fun _ hk => hk.2) (.slice Ao52 t1203.length co52)) (fun _ hk => hk.2) (.slice Ao54 t1206.length co54)) (fun _ hk => hk.2) (.slice Ao56 t1209.length co56)) (fun _ h_ => h_.1)))); (case side2 => exact (Kd.R_reads' HO1202.out).2.1); (case side3 => refine (Kd.R_reads' (e := 3) (base := w.heap.size) (ok := fun k_ => ((w.heap.size ≤ k_) ∧ (some k_ ≠ (.slice Ao50 t1200.length co50 : Value).ownBlock ∧ (some k_ ≠ (.slice Ao54 t1206.length co54 : Value).ownBlock ∧ some k_ ≠ (.slice Ao56 t1209.length co56 : Value).ownBlock)))) (n := t1203.length) (c := co52) ?_).2.2; exact (by (with_reducible repeat (first | apply Kd.R_alloc | apply Kd.R_drewN | apply Kd.R_drew)); exact (Kd.R_mono (Kd.R_far (p := ⟨gb1212, 3, none⟩) (Kd.R_far (p := ⟨gb1212, 2, none⟩) (Kd.R_far (p := ⟨gb1212, 1, none⟩) (Kd.R_far (p := ⟨gb1212, 0, none⟩) (Kd.R_types HO1205.out BK1212.out (by decide)) (fun _ hk => hk.2) (.slice Ao50 t1200.length co50)) (fun _ hk => hk.2) (.slice Ao52 t1203.length co52)) (fun _ hk => hk.2) (.slice Ao54 t1206.length co54)) (fun _ hk => hk.2) (.slice Ao56 t1209.length co56)) (fun _ h_ => h_.1)))); (case side4 => exact (Kd.R_reads' HO1205.out).2.1); (case side5 => refine (Kd.R_reads' (e := 3) (base := w.heap.size) (ok := fun k_ => ((w.heap.size ≤ k_) ∧ (some k_ ≠ (.slice Ao50 t1200.length co50 : Value).ownBlock ∧ (some k_ ≠ (.slice Ao52 t1203.length co52 : Value).ownBlock ∧ some k_ ≠ (.slice Ao56 t1209.length co56 : Value).ownBlock)))) (n := t1206.length) (c := co54) ?_).2.2; exact (by (with_reducible repeat (first | apply Kd.R_alloc | apply Kd.R_drewN | apply Kd.R_drew)); exact (Kd.R_mono (Kd.R_far (p := ⟨gb1212, 3, none⟩) (Kd.R_far (p := ⟨gb1212, 2, none⟩) (Kd.R_far (p := ⟨gb1212, 1, none⟩) (Kd.R_far (p := ⟨gb1212, 0, none⟩) (Kd.R_types HO1208.out BK1212.out (by decide)) (fun _ hk => hk.2) (.slice Ao50 t1200.length co50)) (fun _ hk => hk.2) (.slice Ao52 t1203.length co52)) (fun _ hk => hk.2) (.slice Ao54 t1206.length co54)) (fun _ hk => hk.2) (.slice Ao56 t1209.length co56)) (fun _ h_ => h_.1)))); (case side6 => exact (Kd.R_reads' HO1208.out).2.1); (case side7 => refine (Kd.R_reads' (e := 3) (base := w.heap.size) (ok := fun k_ => ((w.heap.size ≤ k_) ∧ (some k_ ≠ (.slice Ao50 t1200.length co50 : Value).ownBlock ∧ (some k_ ≠ (.slice Ao52 t1203.length co52 : Value).ownBlock ∧ some k_ ≠ (.slice Ao54 t1206.length co54 : Value).ownBlock)))) (n := t1209.length) (c := co56) ?_).2.2; exact (by (with_reducible repeat (first | apply Kd.R_alloc | apply Kd.R_drewN | apply Kd.R_drew)); exact (Kd.R_mono (Kd.R_far (p := ⟨gb1212, 3, none⟩) (Kd.R_far (p := ⟨gb1212, 2, none⟩) (Kd.R_far (p := ⟨gb1212, 1, none⟩) (Kd.R_far (p := ⟨gb1212, 0, none⟩) (Kd.R_types HO1211.out BK1212.out (by decide)) (fun _ hk => hk.2) (.slice Ao50 t1200.length co50)) (fun _ hk => hk.2) (.slice Ao52 t1203.length co52)) (fun _ hk => hk.2) (.slice Ao54 t1206.length co54)) (fun _ hk => hk.2) (.slice Ao56 t1209.length co56)) (fun _ h_ => h_.1)))); (case side8 => exact (Kd.R_reads' HO1211.out).2.1); rintro e w60 ⟨rfl, hb⟩; refine ⟨_, rfl, ?_⟩; have n0_ := Aside0.mk (Kd.N_below (by (with_reducible repeat (first | apply Kd.N_alloc | apply Kd.N_drewN | apply Kd.N_drew)); exact (Kd.N_mono (Kd.N_far (p := ⟨gb1212, 3, none⟩) (Kd.N_far (p := ⟨gb1212, 2, none⟩) (Kd.N_far (p := ⟨gb1212, 1, none⟩) (Kd.N_far (p := ⟨gb1212, 0, none⟩) (Kd.N_mono HO_4.out (fun k_ hk => (⟨hk, hk.2.2.2.2.2.2⟩ : _ ∧ k_ ≠ gb1212))) (fun _ hk => hk.2) (.slice Ao50 t1200.length co50)) (fun _ hk => hk.2) (.slice Ao52 t1203.length co52)) (fun _ hk => hk.2) (.slice Ao54 t1206.length co54)) (fun _ hk => hk.2) (.slice Ao56 t1209.length co56)) (fun _ h_ => h_.1))) hb); have n1_ := Aside0.mk (Kd.V_below (by (with_reducible repeat (first | apply Kd.V_alloc | apply Kd.V_drewN | apply Kd.V_drew)); exact (Kd.V_mono (Kd.V_far (p := ⟨gb1212, 3, none⟩) (Kd.V_far (p := ⟨gb1212, 2, none⟩) (Kd.V_far (p := ⟨gb1212, 1, none⟩) (Kd.V_far (p := ⟨gb1212, 0, none⟩) (Kd.V_mono HO_5.out (fun k_ hk => (⟨hk, hk.2.2.2.2.2.2.2⟩ : _ ∧ k_ ≠ gb1212))) (fun _ hk => hk.2) (.slice Ao50 t1200.length co50)) (fun _ hk => hk.2) (.slice Ao52 t1203.length co52)) (fun _ hk => hk.2) (.slice Ao54 t1206.length co54)) (fun _ hk => hk.2) (.slice Ao56 t1209.length co56)) (fun _ h_ => h_.1))) hb); have n2_ := Aside0.mk (Kd.V_below (by (with_reducible repeat (first | apply Kd.V_alloc | apply Kd.V_drewN | apply Kd.V_drew)); exact (Kd.V_mono (Kd.V_far (p := ⟨gb1212, 3, none⟩) (Kd.V_far (p := ⟨gb1212, 2, none⟩) (Kd.V_far (p := ⟨gb1212, 1, none⟩) (Kd.V_far (p := ⟨gb1212, 0, none⟩) (Kd.V_mono HO_1194000.out (fun k_ hk => (⟨hk, hk.2.2.2.2.2.2.2⟩ : _ ∧ k_ ≠ gb1212))) (fun _ hk => hk.2) (.slice Ao50 t1200.length co50)) (fun _ hk => hk.2) (.slice Ao52 t1203.length co52)) (fun _ hk => hk.2) (.slice Ao54 t1206.length co54)) (fun _ hk => hk.2) (.slice Ao56 t1209.length co56)) (fun _ h_ => h_.1))) hb); have n3_ := Aside0.mk (Kd.R_below (by (with_reducible repeat (first | apply Kd.R_alloc | apply Kd.R_drewN | apply Kd.R_drew)); exact (Kd.R_mono (Kd.R_far (p := ⟨gb1212, 3, none⟩) (Kd.R_far (p := ⟨gb1212, 2, none⟩) (Kd.R_far (p := ⟨gb1212, 1, none⟩) (Kd.R_far (p := ⟨gb1212, 0, none⟩) (Kd.R_types HO1202.out BK1212.out (by decide)) (fun _ hk => hk.2) (.slice Ao50 t1200.length co50)) (fun _ hk => hk.2) (.slice Ao52 t1203.length co52)) (fun _ hk => hk.2) (.slice Ao54 t1206.length co54)) (fun _ hk => hk.2) (.slice Ao56 t1209.length co56)) (fun _ h_ => h_.1))) hb); have n4_ := Aside0.mk (Kd.R_below (by (with_reducible repeat (first | apply Kd.R_alloc | apply Kd.R_drewN | apply Kd.R_drew)); exact (Kd.R_mono (Kd.R_far (p := ⟨gb1212, 3, none⟩) (Kd.R_far (p := ⟨gb1212, 2, none⟩) (Kd.R_far (p := ⟨gb1212, 1, none⟩) (Kd.R_far (p := ⟨gb1212, 0, none⟩) (Kd.R_types HO1205.out BK1212.out (by decide)) (fun _ hk => hk.2) (.slice Ao50 t1200.length co50)) (fun _ hk => hk.2) (.slice Ao52 t1203.length co52)) (fun _ hk => hk.2) (.slice Ao54 t1206.length co54)) (fun _ hk => hk.2) (.slice Ao56 t1209.length co56)) (fun _ h_ => h_.1))) hb); have n5_ := Aside0.mk (Kd.R_below (by (with_reducible repeat (first | apply Kd.R_alloc | apply Kd.R_drewN | apply Kd.R_drew)); exact (Kd.R_mono (Kd.R_far (p := ⟨gb1212, 3, none⟩) (Kd.R_far (p := ⟨gb1212, 2, none⟩) (Kd.R_far (p := ⟨gb1212, 1, none⟩) (Kd.R_far (p := ⟨gb1212, 0, none⟩) (Kd.R_types HO1208.out BK1212.out (by decide)) (fun _ hk => hk.2) (.slice Ao50 t1200.length co50)) (fun _ hk => hk.2) (.slice Ao52 t1203.length co52)) (fun _ hk => hk.2) (.slice Ao54 t1206.length co54)) (fun _ hk => hk.2) (.slice Ao56 t1209.length co56)) (fun _ h_ => h_.1))) hb); have n6_ := Aside0.mk (Kd.R_below (by (with_reducible repeat (first | apply Kd.R_alloc | apply Kd.R_drewN | apply Kd.R_drew)); exact (Kd.R_mono (Kd.R_far (p := ⟨gb1212, 3, none⟩) (Kd.R_far (p := ⟨gb1212, 2, none⟩) (Kd.R_far (p := ⟨gb1212, 1, none⟩) (Kd.R_far (p := ⟨gb1212, 0, none⟩) (Kd.R_types HO1211.out BK1212.out (by decide)) (fun _ hk => hk.2) (.slice Ao50 t1200.length co50)) (fun _ hk => hk.2) (.slice Ao52 t1203.length co52)) (fun _ hk => hk.2) (.slice Ao54 t1206.length co54)) (fun _ hk => hk.2) (.slice Ao56 t1209.length co56)) (fun _ h_ => h_.1))) hb); have n7_ := Aside0.mk (blk_below (g := gb1193) (o := .cells #[.slice A0_0 l0_0.length c0_0, .slice (some ad1198) l0_1.length c0_1, .slice (some ad1199) l0_2.length c0_2] 26 (0, 0)) (by (with_reducible repeat (first | refine blk_drewN ?_ _ | refine blk_drew ?_ | refine blk_alloc ?_ _)); refine blk_far ?_ NB1193_1212.out _; (with_reducible repeat (first | refine blk_drewN ?_ _ | refine blk_drew ?_ | refine blk_alloc ?_ _)); refine blk_far ?_ NB1193_1212.out _; (with_reducible repeat (first | refine blk_drewN ?_ _ | refine blk_drew ?_ | refine blk_alloc ?_ _)); refine blk_far ?_ NB1193_1212.out _; (with_reducible repeat (first | refine blk_drewN ?_ _ | refine blk_drew ?_ | refine blk_alloc ?_ _)); refine blk_far ?_ NB1193_1212.out _; (with_reducible repeat (first | refine blk_drewN ?_ _ | refine blk_drew ?_ | refine blk_alloc ?_ _)); exact BK1193.out) hb); have n8_ := Aside0.mk (blk_below (g := gb1212) (o := .cells #[.slice Ao50 t1200.length co50, .slice Ao52 t1203.length co52, .slice Ao54 t1206.length co54, .slice Ao56 t1209.length co56] 49 (0, 0)) (by (with_reducible repeat (first | refine blk_drewN ?_ _ | refine blk_drew ?_ | refine blk_alloc ?_ _)); refine blk_put (cs := #[.slice Ao50 t1200.length co50, .slice Ao52 t1203.length co52, .slice Ao54 t1206.length co54, .slice none 0 0]) ?_ 3 _ rfl; (with_reducible repeat (first | refine blk_drewN ?_ _ | refine blk_drew ?_ | refine blk_alloc ?_ _)); refine blk_put (cs := #[.slice Ao50 t1200.length co50, .slice Ao52 t1203.length co52, .slice none 0 0, .slice none 0 0]) ?_ 2 _ rfl; (with_reducible repeat (first | refine blk_drewN ?_ _ | refine blk_drew ?_ | refine blk_alloc ?_ _)); refine blk_put (cs := #[.slice Ao50 t1200.length co50, .slice none 0 0, .slice none 0 0, .slice none 0 0]) ?_ 1 _ rfl; (with_reducible repeat (first | refine blk_drewN ?_ _ | refine blk_drew ?_ | refine blk_alloc ?_ _)); refine blk_put (cs := #[.slice none 0 0, .slice none 0 0, .slice none 0 0, .slice none 0 0]) ?_ 0 _ rfl; (with_reducible repeat (first | refine blk_drewN ?_ _ | refine blk_drew ?_ | refine blk_alloc ?_ _)); exact BK1212.out) hb); have n9_ := Aside0.mk (below_step (zH2 GE1193.out GE1212.out) hb); clear HO_4; clear HO_5; clear HO_1194000; clear HO1202; clear HO1205; clear HO1208; clear HO1211; clear BK1193; clear BK1212; clear HB; have HO_4 := n0_; have HO_5 := n1_; have HO_1194000 := n2_; have HO1202 := n3_; have HO1205 := n4_; have HO1208 := n5_; have HO1211 := n6_; have BK1193 := n7_; have BK1212 := n8_; have HB := n9_; clear n0_ n1_ n2_ n3_ n4_ n5_ n6_ n7_ n8_ n9_; (try clear hb); (try clear hb2); (try clear hk); (try clear hi)) | ((with_reducible refine gate_dst (N := 38) rfl ?_); refine Kd.N_lit (Kd.slice 3 (Kd.int .i64)) _ 24 ?hg (N' := 38) ?hd (xs := ([] : List (List Int))) (inner := []) (ok := (fun k_ => (P0_0_ k_ ∨ w.heap.size ≤ k_) ∧ some k_ ≠ (u4 : Value).ownBlock ∧ some k_ ≠ (.slice Ao50 t1200.length co50 : Value).ownBlock ∧ some k_ ≠ (.slice Ao52 t1203.length co52 : Value).ownBlock ∧ some k_ ≠ (.slice Ao54 t1206.length co54 : Value).ownBlock ∧ some k_ ≠ (.slice Ao56 t1209.length co56 : Value).ownBlock ∧ k_ ≠ gb1193 ∧ k_ ≠ gb1212)) (okp := (fun k_ => (P0_0_ k_ ∨ w.heap.size ≤ k_) ∧ some k_ ≠ (u4 : Value).ownBlock ∧ some k_ ≠ (.slice Ao50 t1200.length co50 : Value).ownBlock ∧ some k_ ≠ (.slice Ao52 t1203.length co52 : Value).ownBlock ∧ some k_ ≠ (.slice Ao54 t1206.length co54 : Value).ownBlock ∧ some k_ ≠ (.slice Ao56 t1209.length co56 : Value).ownBlock ∧ k_ ≠ gb1193 ∧ k_ ≠ gb1212)) ?hr ?hp (fun _ hk => hk) ((show ∀ k_, w60.heap.size ≤ k_ → (fun k_ => (P0_0_ k_ ∨ w.heap.size ≤ k_) ∧ some k_ ≠ (u4 : Value).ownBlock ∧ some k_ ≠ (.slice Ao50 t1200.length co50 : Value).ownBlock ∧ some k_ ≠ (.slice Ao52 t1203.length co52 : Value).ownBlock ∧ some k_ ≠ (.slice Ao54 t1206.length co54 : Value).ownBlock ∧ some k_ ≠ (.slice Ao56 t1209.length co56 : Value).ownBlock ∧ k_ ≠ gb1193 ∧ k_ ≠ gb1212) k_ from fun k_ hk => ⟨(.inr (Nat.le_trans (below_size (zH2 GE1193.out GE1212.out)) hk)), Kd.fresh' (Kd.N_lt (zN HO_4.out)) k_ hk, Kd.fresh' (Kd.R_lt (zR HO1202.out)) k_ hk, Kd.fresh' (Kd.R_lt (zR HO1205.out)) k_ hk, Kd.fresh' (Kd.R_lt (zR HO1208.out)) k_ hk, Kd.fresh' (Kd.R_lt (zR HO1211.out)) k_ hk, Kd.freshB (g := gb1193) (o := .cells #[.slice A0_0 l0_0.length c0_0, .slice (some ad1198) l0_1.length c0_1, .slice (some ad1199) l0_2.length c0_2] 26 (0, 0)) (zB BK1193.out) k_ hk, Kd.freshB (g := gb1212) (o := .cells #[.slice Ao50 t1200.length co50, .slice Ao52 t1203.length co52, .slice Ao54 t1206.length co54, .slice Ao56 t1209.length co56] 49 (0, 0)) (zB BK1212.out) k_ hk⟩) _ (Nat.le_refl _)) (Below.refl _ _) (Nat.le_refl _) (by simp) ?_; (case hd => rfl); (case hg => rfl); (case hr => first | (go_simp; done) | (go_simp; rfl)); (case hp => exact (Reps.none _ _)); intro v1215 w61 ho62 hb hg_ hnew_; clear hg_ hnew_; (first | rw [← Ny1214.out] at ho62 | (simp only [Int.reduceToNat] at ho62; rw [← Ny1214.out] at ho62)); have n0_ := Aside0.mk (Kd.N_elder' (zN HO_4.out) (Kd.N_base ho62) hb); have n1_ := Aside0.mk (Kd.V_elder' (zV HO_5.out) (Kd.N_base ho62) hb); have n2_ := Aside0.mk (Kd.V_elder' (zV HO_1194000.out) (Kd.N_base ho62) hb); have n3_ := Aside0.mk (Kd.R_below (zR HO1202.out) hb); have n4_ := Aside0.mk (Kd.R_below (zR HO1205.out) hb); have n5_ := Aside0.mk (Kd.R_below (zR HO1208.out) hb); have n6_ := Aside0.mk (Kd.R_below (zR HO1211.out) hb); have n7_ := Aside0.mk (Kd.N_lower ho62 (below_size (zH2 GE1193.out GE1212.out))); have n8_ := Aside0.mk (blk_below (g := gb1193) (o := .cells #[.slice A0_0 l0_0.length c0_0, .slice (some ad1198) l0_1.length c0_1, .slice (some ad1199) l0_2.length c0_2] 26 (0, 0)) (zB BK1193.out) hb); have n9_ := Aside0.mk (blk_below (g := gb1212) (o := .cells #[.slice Ao50 t1200.length co50, .slice Ao52 t1203.length co52, .slice Ao54 t1206.length co54, .slice Ao56 t1209.length co56] 49 (0, 0)) (zB BK1212.out) hb); have n10_ := Aside0.mk (below_step (zH2 GE1193.out GE1212.out) hb); clear HO_4; clear HO_5; clear HO_1194000; clear HO1202; clear HO1205; clear HO1208; clear HO1211; clear BK1193; clear BK1212; clear HB; have HO_4 := n0_; have HO_5 := n1_; have HO_1194000 := n2_; have HO1202 := n3_; have HO1205 := n4_; have HO1208 := n5_; have HO1211 := n6_; have HO1216 := n7_; have BK1193 := n8_; have BK1212 := n9_; have HB := n10_; clear n0_ n1_ n2_ n3_ n4_ n5_ n6_ n7_ n8_ n9_ n10_; clear hb ho62))
               go_ret2
               exact ⟨_, by first | rfl | (simp [errW_none, errW_some] <;> rfl) | (simp [*, errW_none, errW_some] <;> rfl), by (with_reducible repeat (first | apply Kd.N_alloc | apply Kd.N_drewN | apply Kd.N_drew)); exact Kd.N_mono HO1216.out (fun _ hk => hk.1), by repeat (first | (with_reducible first | exact HB.out | apply below_alloc | apply pw_below_drewN | apply below_drew1 | refine below_set ?_ GE1193.out | refine below_set ?_ GE1212.out) | exact HB.out)⟩
           · rw [if_neg c13] at H
             exact absurd H (by simp)
         · rw [if_neg c12] at H
           exact absurd H (by simp)
       · rw [if_neg c11] at H
         exact absurd H (by simp)
     · rw [if_neg c10] at H
       have c10b0 : decide (0 ≤ x6_1) = false := decide_eq_false c10
       clear c10
       simp only [Option.some.injEq, Prod.mk.injEq] at H
       obtain ⟨rfl, rfl⟩ := H
       go_wp2
       go_ret2
       exact ⟨_, by first | rfl | (simp [errW_none, errW_some] <;> rfl) | (simp [*, errW_none, errW_some] <;> rfl), by (with_reducible repeat (first | apply Kd.N_alloc | apply Kd.N_drewN | apply Kd.N_drew)); exact Kd.N_mono HO_4.out (fun _ hk => hk.1), by repeat (first | (with_reducible first | exact HB.out | apply below_alloc | apply pw_below_drewN | apply below_drew1 | refine below_set ?_ GE1193.out) | exact HB.out)⟩
 · replace c3 := Bool.eq_false_iff.mpr c3
   subst c3
   have H1 : (some (y1194, false)) = some (r1, r2) := by rw [if_neg (show ¬ (false = true) by decide)] at H; exact H
   clear H
   have H := H1
   clear H1
   simp only [Option.some.injEq, Prod.mk.injEq] at H
   obtain ⟨rfl, rfl⟩ := H
   go_enter Try.func18, Try.ntmps18
   go_wp2_with (first | ((with_reducible refine gate_dst (N := 1) rfl ?_); refine box_event ?hg (N := 1) ?hd (cs := #[.slice A0_0 l0_0.length c0_0, .slice A0_1 l0_1.length c0_1, .slice A0_2 l0_2.length c0_2]) (t := 26) ?hr ?_; (case hd => rfl); (case hg => rfl); (case hr => first | (go_simp; done) | (go_simp; rfl)); intro gb1193 hg w63 hbox hb; have n0_ := Aside0.mk (Kd.V_below (Kd.V_elderB (zV HO0_0.out) gb1193 (Nat.le_of_eq hg.symm)) hb); have n1_ := Aside0.mk (below_step zH0 hb); have n2_ := Aside0.mk (hbox); have n3_ := Aside0.mk ((z6 : w.heap.size ≤ gb1193)); have n4_ := Aside0.mk ((z6 : w.heap.size ≤ gb1193)); clear HO0_0; clear HB; have HO0_0 := n0_; have HB := n1_; have BK1193 := n2_; have GW1193 := n3_; have GE1193 := n4_; clear n0_ n1_ n2_ n3_ n4_; clear hb hbox hg) | ((with_reducible refine gate_dst (N := 8) rfl ?_); refine Kd.N_lit (Kd.slice 3 (Kd.int .i64)) _ 24 ?hg (N' := 8) ?hd (xs := ([] : List (List Int))) (inner := []) (ok := (fun k_ => (P0_0_ k_ ∨ w.heap.size ≤ k_) ∧ k_ ≠ gb1193)) (okp := (fun k_ => (P0_0_ k_ ∨ w.heap.size ≤ k_) ∧ k_ ≠ gb1193)) ?hr ?hp (fun _ hk => hk) ((show ∀ k_, w63.heap.size ≤ k_ → (fun k_ => (P0_0_ k_ ∨ w.heap.size ≤ k_) ∧ k_ ≠ gb1193) k_ from fun k_ hk => ⟨(.inr (Nat.le_trans (below_size (zH1 GE1193.out)) hk)), Kd.freshB (g := gb1193) (o := .cells #[.slice A0_0 l0_0.length c0_0, .slice A0_1 l0_1.length c0_1, .slice A0_2 l0_2.length c0_2] 26 (0, 0)) (zB BK1193.out) k_ hk⟩) _ (Nat.le_refl _)) (Below.refl _ _) (Nat.le_refl _) (by simp) ?_; (case hd => rfl); (case hg => rfl); (case hr => first | (go_simp; done) | (go_simp; rfl)); (case hp => exact (Reps.none _ _)); intro v1195 w64 ho65 hb hg_ hnew_; clear hg_ hnew_; (first | rw [← Ny1194.out] at ho65 | (simp only [Int.reduceToNat] at ho65; rw [← Ny1194.out] at ho65)); have n0_ := Aside0.mk (Kd.V_elder' (zV HO0_0.out) (Kd.N_base ho65) hb); have n1_ := Aside0.mk (Kd.N_lower ho65 (below_size (zH1 GE1193.out))); have n2_ := Aside0.mk (blk_below (g := gb1193) (o := .cells #[.slice A0_0 l0_0.length c0_0, .slice A0_1 l0_1.length c0_1, .slice A0_2 l0_2.length c0_2] 26 (0, 0)) (zB BK1193.out) hb); have n3_ := Aside0.mk (below_step (zH1 GE1193.out) hb); clear HO0_0; clear BK1193; clear HB; have HO0_0 := n0_; have HO1196 := n1_; have BK1193 := n2_; have HB := n3_; clear n0_ n1_ n2_ n3_; clear hb ho65; have hcz66_0 : w64.cell? ⟨gb1193, 0, none⟩ = some (.slice A0_0 l0_0.length c0_0) := (blk_cell BK1193.out 0).trans rfl; have hcz66_1 : w64.cell? ⟨gb1193, 1, none⟩ = some (.slice A0_1 l0_1.length c0_1) := (blk_cell BK1193.out 1).trans rfl; have hcz66_2 : w64.cell? ⟨gb1193, 2, none⟩ = some (.slice A0_2 l0_2.length c0_2) := (blk_cell BK1193.out 2).trans rfl; have hfz66_0 := blk_frozen BK1193.out 0; have hfz66_1 := blk_frozen BK1193.out 1; have hfz66_2 := blk_frozen BK1193.out 2) | ((with_reducible refine gate_callee (f := 61) rfl ?_); refine goesL_ (some 10) rfl rfl Try.func61 (by kernel_rfl) rfl #[.agg #[.slice A0_0 l0_0.length c0_0, .slice A0_1 l0_1.length c0_1, .slice A0_2 l0_2.length c0_2]] rfl z1 ?_; (with_reducible refine (spec_l7Good.calls k _ _ l0_0 _ _ l0_1 _ _ l0_2 false _ ?side1 ?side2 ?side3 ?side4 ?side5 ?side6 A2.out).mono ?_); (case side1 => exact zC (Kd.V_reads' HO0_0.out).2.2); (case side2 => exact (Kd.V_reads' HO0_0.out).2.1); (case side3 => exact zC (Kd.C_below HR0_1.out HB.out)); (case side4 => exact HC0_1.out); (case side5 => exact zC (Kd.C_below HR0_2.out HB.out)); (case side6 => exact HC0_2.out); rintro e w67 ⟨rfl, hb⟩; refine ⟨_, rfl, ?_⟩; have n0_ := Aside0.mk (Kd.V_below (zV HO0_0.out) hb); have n1_ := Aside0.mk (Kd.N_below (zN HO1196.out) hb); have n2_ := Aside0.mk (blk_below (g := gb1193) (o := .cells #[.slice A0_0 l0_0.length c0_0, .slice A0_1 l0_1.length c0_1, .slice A0_2 l0_2.length c0_2] 26 (0, 0)) (zB BK1193.out) hb); have n3_ := Aside0.mk (below_step (zH1 GE1193.out) hb); clear HO0_0; clear HO1196; clear BK1193; clear HB; have HO0_0 := n0_; have HO1196 := n1_; have BK1193 := n2_; have HB := n3_; clear n0_ n1_ n2_ n3_; (try clear hb); (try clear hb2); (try clear hk); (try clear hi)))
   go_ret2
   exact ⟨_, by first | rfl | (simp [errW_none, errW_some] <;> rfl) | (simp [*, errW_none, errW_some] <;> rfl), by (with_reducible repeat (first | apply Kd.N_alloc | apply Kd.N_drewN | apply Kd.N_drew)); exact Kd.N_mono HO1196.out (fun _ hk => hk.1), by repeat (first | (with_reducible first | exact HB.out | apply below_alloc | apply pw_below_drewN | apply below_drew1 | refine below_set ?_ GE1193.out) | exact HB.out)⟩
end Go.Proofs.Ythlmmcmpllgflaa.P
namespace Go.Proofs.Ythlmmcmpllgflaa.P
open Go.RowKit Go.Proofs.YthlmmcmpllgflaaW.PrintWords Go.Proofs.YthlmmcmpllgflaaW.PrintLast Go.Proofs.YthlmmcmpllgflaaW.PrintMore ChainMath
theorem l7Case_l0 (need : List Int) (a b : Int) (hn : need.length ≤ 1000000) : ∀ (d i : Nat), i + d = need.length →
    Ev (fun k => spec_l7Case.l0 k need a b (i : Int) (need.take i) (List.replicate i a) (List.replicate i 0) (List.replicate i b)) (need, List.replicate need.length a, List.replicate need.length 0, List.replicate need.length b)
  | 0, i, h => by
    refine Ev.step (fun k => spec_l7Case.l0.eq_2 ..) ?_
    exact Ev.neg (by omega) ((Ev.now _).to (by rw [show i = need.length by omega, List.take_length]))
  | d + 1, i, h => by
    have ih := l7Case_l0 need a b hn d (i + 1) (by omega)
    refine Ev.step (fun k => spec_l7Case.l0.eq_2 ..) ?_
    refine Ev.pos (by omega) (Ev.pos (by omega) (Ev.pos (by rw [List.length_take]; omega) (Ev.pos z40 (Ev.pos z40 (Ev.pos z40 ?_)))))
    rw [wrS (by omega), rd_nat]
    have e1 : need.take i ++ [need.getD i 0] = need.take (i + 1) := by rw [List.take_succ_eq_append_getElem (by omega), List.getD_eq_getElem?_getD, List.getElem?_eq_getElem (by omega)]; rfl
    have e2 : ∀ x : Int, List.replicate i x ++ [x] = List.replicate (i + 1) x := fun x => by rw [List.replicate_succ']
    rw [e1, e2, e2, e2]; exact ih
theorem l7Case_ev (need : List Int) (a b : Int) (hn : need.length ≤ 1000000) :
    Ev (fun k => spec_l7Case.f k need a b) (need, List.replicate need.length a, List.replicate need.length 0, List.replicate need.length b) := by
  unfold spec_l7Case.f
  exact (l7Case_l0 need a b hn need.length 0 (by omega)).to rfl
def lotsB (need setup unit hold : List Int) : Bool :=
  decide ((need.length : Int) ≤ 8) && ((need.all (inB 0 20) && ((need.length : Int) == need.length)) && ((setup.all (inB 0 99) && ((setup.length : Int) == need.length)) && ((unit.all (inB 0 9) && ((unit.length : Int) == need.length)) && (hold.all (inB 0 9) && ((hold.length : Int) == need.length)))))
theorem l2Good_ev (need setup unit hold : List Int) (h1 : need.length < 1000000000) (h2 : setup.length < 1000000000) (h3 : unit.length < 1000000000) (h4 : hold.length < 1000000000) :
    Ev (fun k => spec_l2Good.f k need setup unit hold) (lotsB need setup unit hold) := by
  unfold spec_l2Good.f lotsB
  refine Ev.ifB fun _ => Ev.andB (l2Row_ev _ _ _ (by omega)) fun _ => Ev.andB (l2Row_ev _ _ _ (by omega)) fun _ => Ev.andB (l2Row_ev _ _ _ (by omega)) fun _ => ?_
  exact Ev.bind (l2Row_ev _ _ _ (by omega)) (Ev.now _)
theorem all_rep {lo hi x : Int} {n : Nat} (h : lo ≤ x ∧ x ≤ hi) : (List.replicate n x).all (inB lo hi) = true := by
  rw [List.all_eq_true]; intro y hy; have := List.eq_of_mem_replicate hy; subst this; unfold inB; simpa using h
theorem lots_even {need : List Int} (hn : need.length ≤ 8) (h : need.all (inB 0 20) = true) {a b : Int} (ha : 0 ≤ a ∧ a ≤ 99) (hb : 0 ≤ b ∧ b ≤ 9) : Lots need (List.replicate need.length a) (List.replicate need.length 0) (List.replicate need.length b) :=
  ⟨hn, by simp, by simp, by simp, fun x hx => inB_mem h hx, fun x hx => by rw [List.eq_of_mem_replicate hx]; exact ha, fun x hx => by rw [List.eq_of_mem_replicate hx]; omega, fun x hx => by rw [List.eq_of_mem_replicate hx]; exact hb⟩
theorem lotsB_even {need : List Int} (hn : need.length ≤ 8) {a b : Int} (ha : 0 ≤ a ∧ a ≤ 99) (hb : 0 ≤ b ∧ b ≤ 9) : lotsB need (List.replicate need.length a) (List.replicate need.length 0) (List.replicate need.length b) = need.all (inB 0 20) := by
  unfold lotsB
  rw [all_rep ha, all_rep hb, all_rep (show (0 : Int) ≤ 0 ∧ (0 : Int) ≤ 9 by omega), decide_eq_true (show (need.length : Int) ≤ 8 by omega)]; simp
def bestPlan (need : List Int) (a b : Int) : List Int := planOf need (Ob (bestCode need (List.replicate need.length a) (List.replicate need.length 0) (List.replicate need.length b)))
def stages (setup hold : List Int) : Nat → List Int → List (List Int) → List (List Int) × Bool
  | 0, _, rows => (rows, true)
  | s + 1, need, rows => if need.all (inB 0 20) = true then stages setup hold s (bestPlan need (setup.getD s 0) (hold.getD s 0)) (bestPlan need (setup.getD s 0) (hold.getD s 0) :: rows) else ([], false)
theorem bestPlan_len (need : List Int) (a b : Int) : (bestPlan need a b).length = need.length := planOf_len _ _
theorem stages_rows (setup hold : List Int) : ∀ s need rows, need.length ≤ 6 → s + rows.length ≤ 3 → (∀ r ∈ rows, r.length ≤ 6) → (stages setup hold s need rows).1.length ≤ 3 ∧ ∀ r ∈ (stages setup hold s need rows).1, r.length ≤ 6
  | 0, need, rows, _, h, h2 => ⟨by simp only [stages]; omega, h2⟩
  | s + 1, need, rows, h1, h, h2 => by
    simp only [stages]
    split
    · refine stages_rows setup hold s _ _ (by rw [bestPlan_len]; exact h1) z40 ?_
      intro r hr
      rw [List.mem_cons] at hr
      rcases hr with e | e
      · rw [e, bestPlan_len]; exact h1
      · exact h2 r e
    · simp
section
variable (N setup hold : List Int) (hs : ∀ x ∈ setup, 0 ≤ x ∧ x ≤ 99) (hh : ∀ x ∈ hold, 0 ≤ x ∧ x ≤ 9) (hl : setup.length ≤ 3) (hl2 : hold.length = setup.length)
include hs hh hl hl2
theorem stagewise_l0 : ∀ s need rows, s + rows.length ≤ 3 → s ≤ setup.length → need.length ≤ 6 →
    Ev (fun k => impl_StagewisePlan.l0 k (List.replicate s [] ++ rows) need ((s : Int) - 1) N setup hold) (stages setup hold s need rows)
  | 0, need, rows, _, _, _ => by
    refine Ev.step (fun k => impl_StagewisePlan.l0.eq_2 ..) ?_
    exact Ev.neg (by omega) ((Ev.now _).to (by simp [stages]))
  | s + 1, need, rows, h1, h2, h3 => by
    refine Ev.step (fun k => impl_StagewisePlan.l0.eq_2 ..) ?_
    rw [show ((s + 1 : Nat) : Int) - 1 = (s : Int) by omega]
    refine Ev.pos (by omega) (Ev.bind (allWithin_ev need 0 20 (by omega)) ?_)
    simp only [stages]
    by_cases ha : need.all (inB 0 20) = true
    · rw [if_pos ha]
      have hsu := hs _ (getD_mem setup (i := s) (by omega)); have hho := hh _ (getD_mem hold (i := s) (by omega))
      have L := lots_even (need := need) (by omega) ha hsu hho
      obtain ⟨b1, b2⟩ := bestCode_spec L
      have hb := best_ev L
      rw [b1] at hb
      refine Ev.pos ha (Ev.pos (by omega) (Ev.pos (by omega) (Ev.pos (by omega) ?_)))
      rw [rd_nat, rd_nat]
      refine Ev.bind (evenCase_ev need _ _ (by omega)) ?_
      dsimp only
      refine Ev.bind hb (Ev.bind (planFrom_ev need _ _ _ _ (by omega) L.big) ?_)
      rw [if_pos b2]
      refine Ev.pos z40 ?_
      simp only [Option.bind_some]
      rw [Int.toNat_natCast]
      have e : (List.replicate (s + 1) [] ++ rows).set s (bestPlan need (setup.getD s 0) (hold.getD s 0)) = List.replicate s [] ++ bestPlan need (setup.getD s 0) (hold.getD s 0) :: rows := by
        rw [List.replicate_succ', List.append_assoc, List.set_append_right _ _ (by simp), List.length_replicate, Nat.sub_self]; rfl
      have e3 : planOf need (Ob (bestCode need (List.replicate need.length (setup.getD s 0)) (List.replicate need.length 0) (List.replicate need.length (hold.getD s 0)))) = bestPlan need (setup.getD s 0) (hold.getD s 0) := rfl
      have e2 : rd_L2 (List.replicate s [] ++ bestPlan need (setup.getD s 0) (hold.getD s 0) :: rows) (s : Int) = bestPlan need (setup.getD s 0) (hold.getD s 0) := by
        rw [rdL_nat, List.getD_eq_getElem?_getD, List.getElem?_append_right (by simp)]; simp
      rw [e3, e, e2, wr (n := (s : Int) - 1) (by omega) (by omega)]
      exact stagewise_l0 s _ _ z40 (by omega) (by rw [bestPlan_len]; exact h3)
    · rw [if_neg ha]
      exact Ev.neg ha (Ev.now _)
theorem stagewiseS_l0 : ∀ s need rows, s + rows.length ≤ 3 → s ≤ setup.length → need.length ≤ 6 →
    Ev (fun k => spec_StagewisePlan.l0 k rows need ((s : Int) - 1) N setup hold) (stages setup hold s need rows)
  | 0, need, rows, _, _, _ => by
    refine Ev.step (fun k => spec_StagewisePlan.l0.eq_2 ..) ?_
    exact Ev.neg (by omega) ((Ev.now _).to (by simp [stages]))
  | s + 1, need, rows, h1, h2, h3 => by
    refine Ev.step (fun k => spec_StagewisePlan.l0.eq_2 ..) ?_
    rw [show ((s + 1 : Nat) : Int) - 1 = (s : Int) by omega]
    have hsu := hs _ (getD_mem setup (i := s) (by omega)); have hho := hh _ (getD_mem hold (i := s) (by omega))
    refine Ev.pos (by omega) (Ev.pos (by omega) (Ev.pos (by omega) (Ev.pos (by omega) ?_)))
    rw [rd_nat, rd_nat]
    refine Ev.bind (l7Case_ev need _ _ (by omega)) ?_
    dsimp only
    refine Ev.bind (l2Good_ev _ _ _ _ (by omega) z40 z40 z40) ?_
    rw [lotsB_even (by omega) hsu hho]
    simp only [stages]
    by_cases ha : need.all (inB 0 20) = true
    · rw [if_pos ha]
      have L := lots_even (need := need) (by omega) ha hsu hho
      obtain ⟨b1, b2⟩ := bestCode_spec L
      have hb := l2Best_ev L
      rw [b1] at hb
      refine Ev.pos ha (Ev.bind hb (Ev.bind (l2From_ev need _ _ _ _ (by omega) L.big) ?_))
      simp only [Option.bind_some]
      refine Ev.pos z40 ?_
      rw [wr (n := (s : Int) - 1) (by omega) (by omega)]
      exact stagewiseS_l0 s _ _ z40 (by omega) (by rw [planOf_len]; exact h3)
    · rw [if_neg ha]
      exact Ev.neg ha (Ev.now _)
end
def staged (need setup hold : List Int) : List (List Int) × Bool := if chainB need setup hold = true then stages setup hold setup.length need [] else ([], false)
theorem stagedI_ev (need setup hold : List Int) (h1 : need.length < 1000000000) (h2 : setup.length < 1000000000) (h3 : hold.length < 1000000000) :
    Ev (fun k => impl_StagewisePlan.f k need setup hold) (staged need setup hold) := by
  unfold impl_StagewisePlan.f staged
  refine Ev.bind (IsChain_ev need setup hold h1 h2 h3) ?_
  by_cases hg : chainB need setup hold = true
  · rw [if_pos hg]
    unfold chainB at hg; simp only [Bool.and_eq_true, decide_eq_true_eq] at hg
    obtain ⟨g1, g2, g3, g4, g5, g6, g7⟩ := hg
    unfold inB at g3; simp at g3
    refine Ev.pos (by unfold chainB inB at *; simp only [Bool.and_eq_true, decide_eq_true_eq]; exact ⟨g1, g2, by omega, g4, g5, g6, g7⟩) (Ev.pos (by omega) (Ev.pos (by omega) ?_))
    simp only [Option.bind_some, Int.toNat_natCast, List.length_replicate]
    rw [wr (n := (setup.length : Int) - 1) (by omega) (by omega)]
    have := stagewise_l0 need setup hold (fun x hx => inB_mem g5 hx) (fun x hx => inB_mem g6 hx) (by omega) (by omega) setup.length need [] z40 (by omega) (by omega)
    rw [List.append_nil] at this; exact this
  · rw [if_neg hg]
    exact Ev.neg hg (Ev.now _)
theorem stagedS_ev (need setup hold : List Int) (h1 : need.length < 1000000000) (h2 : setup.length < 1000000000) (h3 : hold.length < 1000000000) :
    Ev (fun k => spec_StagewisePlan.f k need setup hold) (staged need setup hold) := by
  unfold spec_StagewisePlan.f staged
  simp only [Option.bind_some]
  refine Ev.bind (l7Good_ev need setup hold h1 h2 h3) ?_
  by_cases hg : chainB need setup hold = true
  · rw [if_pos hg]
    refine Ev.pos hg ?_
    unfold chainB at hg; simp only [Bool.and_eq_true, decide_eq_true_eq] at hg
    obtain ⟨g1, g2, g3, g4, g5, g6, g7⟩ := hg
    unfold inB at g3; simp at g3
    rw [wr (n := (setup.length : Int) - 1) (by omega) (by omega)]
    exact stagewiseS_l0 need setup hold (fun x hx => inB_mem g5 hx) (fun x hx => inB_mem g6 hx) (by omega) (by omega) setup.length need [] z40 (by omega) (by omega)
  · rw [if_neg hg]
    exact Ev.neg hg (Ev.now _)
theorem staged_rows (need setup hold : List Int) : (staged need setup hold).1.length ≤ 3 ∧ ∀ r ∈ (staged need setup hold).1, r.length ≤ 6 := by
  unfold staged
  split
  · rename_i hg
    unfold chainB at hg; simp only [Bool.and_eq_true, decide_eq_true_eq] at hg
    obtain ⟨g1, g2, g3, g4, g5, g6, g7⟩ := hg
    unfold inB at g3; simp at g3
    exact stages_rows setup hold setup.length need [] (by omega) z40 (by simp)
  · simp
end Go.Proofs.Ythlmmcmpllgflaa.P
namespace Go.Proofs.Ythlmmcmpllgflaa.P
open Go.RowKit Go.Proofs.YthlmmcmpllgflaaW.PrintWords Go.Proofs.YthlmmcmpllgflaaW.PrintLast Go.Proofs.YthlmmcmpllgflaaW.PrintMore
attribute [local go_sem] max2_int min2_int max_two min_two max_three min_three max_four min_four
set_option linter.unusedVariables false
set_option linter.unusedSimpArgs false
def laws_eqIntSS.l0 : Nat → List (List Int) → List (List Int) → Int → Option (Bool)
 | 0, _, _, _ => none
 | k + 1, x0, x1, x5 => if x5 < (x0.length : Int) then (if 0 ≤ x5 then (if x5 < (x1.length : Int) then ((laws_eqIntS.f k (rd_L2 x0 x5) (rd_L2 x1 x5)).bind fun t1322 => (if t1322 = true then (laws_eqIntSS.l0 k x0 x1 (wrap64 (x5 + 1))) else (some false))) else (none)) else (none)) else (some true)
def laws_eqIntSS.f (k : Nat) (l0 : List (List Int)) (l1 : List (List Int)) : Option (Bool) := if (l0.length : Int) = (l1.length : Int) then (laws_eqIntSS.l0 k l0 l1 0) else (some false)
set_option maxHeartbeats 8000000 in
set_option maxRecDepth 100000 in
theorem laws_eqIntSS.calls (k : Nat) (A0 : Option Addr) (c0 : Nat) (l0 : List (List Int)) (A1 : Option Addr) (c1 : Nat) (l1 : List (List Int)) (r : Bool) (w : World) (hr0 : Kd.C (Kd.slice 3 (Kd.int .i64)) w A0 l0.length l0) (hc0 : l0.length ≤ c0) (hr1 : Kd.C (Kd.slice 3 (Kd.int .i64)) w A1 l1.length l1) (hc1 : l1.length ≤ c1) (h : laws_eqIntSS.f k l0 l1 = some r) :
 Calls Try.prog 25 #[.slice A0 l0.length c0, .slice A1 l1.length c1] w fun e w' => e = .returned (.bool r) ∧ Drawn0 w w' := by
 have HR0 := Aside0.mk hr0
 have HC0 := Aside0.mk hc0
 clear hr0 hc0
 have HR1 := Aside0.mk hr1
 have HC1 := Aside0.mk hc1
 clear hr1 hc1
 have H : (if (l0.length : Int) = (l1.length : Int) then (laws_eqIntSS.l0 k l0 l1 0) else (some false)) = some r := h
 clear h
 by_cases c3 : (l0.length : Int) = (l1.length : Int)
 · rw [if_pos c3] at H
   have c3b0 : ((l0.length : Int) == (l1.length : Int)) = true := beq_iff_eq.mpr c3
   have c3b1 : ((l0.length : Int) != (l1.length : Int)) = false := bne_eq_false_iff_eq.mpr c3
   have c3b2 : (l0.length == l1.length) = true := by first | simpa using c3 | (simp at c3 ⊢; omega)
   clear c3
   have H' := Aside0.mk H
   clear H
   go_enter Try.func25, Try.ntmps25
   go_wp2
   repeat (go_quiet (fail); try go_wp2)
   go_loopg [5] k (fun kq v5 w' => ∃ (x5_1 : Int), v5 = .int .i64 x5_1 ∧ Aside0 (laws_eqIntSS.l0 kq l0 l1 x5_1 = some r) ∧ Aside0 (kq ≤ k) ∧ Drawn0 w w')
   case atStart => exact ⟨(0), z3, H', ⟨Nat.le_refl _⟩, by repeat (first | exact Drawn0.refl _ | apply Drawn0.step)⟩
   case round =>
    clear H'
    try clear c1
    try clear c2
    try clear p2
    try clear c3
    try clear c3b0
    try clear c3b1
    try clear c3b2
    obtain ⟨x5_1, rfl, HA, HK1, ⟨m1, rfl⟩⟩ := hrel
    cases gk with
    | zero => exact absurd HA.out (by simp [laws_eqIntSS.l0])
    | succ k1 =>
     have H := HA.out
     clear HA
     simp only [laws_eqIntSS.l0] at H
     by_cases c4 : x5_1 < (l0.length : Int)
     · rw [if_pos c4] at H
       have c4b0 : decide (x5_1 < (l0.length : Int)) = true := decide_eq_true c4
       clear c4
       by_cases c5 : 0 ≤ x5_1
       · rw [if_pos c5] at H
         have c5b0 : decide (0 ≤ x5_1) = true := decide_eq_true c5
         clear c5
         by_cases c6 : x5_1 < (l1.length : Int)
         · rw [if_pos c6] at H
           have c6b0 : decide (x5_1 < (l1.length : Int)) = true := decide_eq_true c6
           clear c6
           replace H := Option.bind_eq_some_iff.mp H
           obtain ⟨t1322, A70, H⟩ := H
           replace H : (if t1322 = true then (laws_eqIntSS.l0 k1 l0 l1 (wrap64 (x5_1 + 1))) else (some false)) = some r := H
           have A7 := Aside0.mk A70
           clear A70
           by_cases c8 : t1322 = true
           · subst c8
             have H1 : (laws_eqIntSS.l0 k1 l0 l1 (wrap64 (x5_1 + 1))) = some r := by rw [if_pos rfl] at H; exact H
             clear H
             have H := H1
             clear H1
             have H' := Aside0.mk H
             clear H
             have p1320 : 0 ≤ (x5_1 : Int) := of_decide_eq_true z2
             have q1320 : x5_1 < (l0.length : Int) := of_decide_eq_true z2
             obtain ⟨ad1320, A1320_0, c1320_0, e1320, hx1320_0, hl1320_0, hi1320_0⟩ := at_L2 HR0.out x5_1 p1320 q1320
             cases e1320
             have HR1320_0 := Aside0.mk hi1320_0
             have HC1320_0 := Aside0.mk hl1320_0
             clear hi1320_0 hl1320_0
             replace p1320 := eq_true p1320
             replace q1320 := eq_true q1320
             have p1321 : 0 ≤ (x5_1 : Int) := of_decide_eq_true z2
             have q1321 : x5_1 < (l1.length : Int) := of_decide_eq_true z2
             obtain ⟨ad1321, A1321_0, c1321_0, e1321, hx1321_0, hl1321_0, hi1321_0⟩ := at_L2 HR1.out x5_1 p1321 q1321
             cases e1321
             have HR1321_0 := Aside0.mk hi1321_0
             have HC1321_0 := Aside0.mk hl1321_0
             clear hi1321_0 hl1321_0
             replace p1321 := eq_true p1321
             replace q1321 := eq_true q1321
             go_wp2_with (first | (go_at_call 81; (with_reducible refine (laws_eqIntS.calls k1 _ _ (rd_L2 l0 x5_1) _ _ (rd_L2 l1 x5_1) true _ ?side1 ?side2 ?side3 ?side4 A7.out).mono ?_); (case side1 => repeat (first | exact HR1320_0.out | (with_reducible refine Kd.C_alloc ?_ _) | (with_reducible refine Kd.C_drewN ?_ _) | (with_reducible refine Kd.C_drew ?_))); (case side2 => exact HC1320_0.out); (case side3 => repeat (first | exact HR1321_0.out | (with_reducible refine Kd.C_alloc ?_ _) | (with_reducible refine Kd.C_drewN ?_ _) | (with_reducible refine Kd.C_drew ?_))); (case side4 => exact HC1321_0.out); rintro e w' ⟨rfl, ⟨nd, rfl⟩⟩; (try first | exact ⟨rfl, _, World.drewN_drewN _ _ _⟩ | exact ⟨rfl, _, Eq.trans (World.drewN_drewN _ _ _) (congrArg (World.drewN _) (Nat.add_assoc _ _ _))⟩)))
             repeat (go_quiet (first | (go_at_call 81; (with_reducible refine (laws_eqIntS.calls k1 _ _ (rd_L2 l0 x5_1) _ _ (rd_L2 l1 x5_1) true _ ?side1 ?side2 ?side3 ?side4 A7.out).mono ?_); (case side1 => repeat (first | exact HR1320_0.out | (with_reducible refine Kd.C_alloc ?_ _) | (with_reducible refine Kd.C_drewN ?_ _) | (with_reducible refine Kd.C_drew ?_))); (case side2 => exact HC1320_0.out); (case side3 => repeat (first | exact HR1321_0.out | (with_reducible refine Kd.C_alloc ?_ _) | (with_reducible refine Kd.C_drewN ?_ _) | (with_reducible refine Kd.C_drew ?_))); (case side4 => exact HC1321_0.out); rintro e w' ⟨rfl, ⟨nd, rfl⟩⟩; (try first | exact ⟨rfl, _, World.drewN_drewN _ _ _⟩ | exact ⟨rfl, _, Eq.trans (World.drewN_drewN _ _ _) (congrArg (World.drewN _) (Nat.add_assoc _ _ _))⟩))); try go_wp2_with (first | (go_at_call 81; (with_reducible refine (laws_eqIntS.calls k1 _ _ (rd_L2 l0 x5_1) _ _ (rd_L2 l1 x5_1) true _ ?side1 ?side2 ?side3 ?side4 A7.out).mono ?_); (case side1 => repeat (first | exact HR1320_0.out | (with_reducible refine Kd.C_alloc ?_ _) | (with_reducible refine Kd.C_drewN ?_ _) | (with_reducible refine Kd.C_drew ?_))); (case side2 => exact HC1320_0.out); (case side3 => repeat (first | exact HR1321_0.out | (with_reducible refine Kd.C_alloc ?_ _) | (with_reducible refine Kd.C_drewN ?_ _) | (with_reducible refine Kd.C_drew ?_))); (case side4 => exact HC1321_0.out); rintro e w' ⟨rfl, ⟨nd, rfl⟩⟩; (try first | exact ⟨rfl, _, World.drewN_drewN _ _ _⟩ | exact ⟨rfl, _, Eq.trans (World.drewN_drewN _ _ _) (congrArg (World.drewN _) (Nat.add_assoc _ _ _))⟩))))
             go_roundg k1
             case measure => have := HK1.out; omega
             case rel => exact ⟨(wrap64 (x5_1 + 1)), z3, H', ⟨by have := HK1.out; omega⟩, by repeat (first | exact Drawn0.refl _ | apply Drawn0.step)⟩
           · replace c8 := Bool.eq_false_iff.mpr c8
             subst c8
             have H1 : (some false) = some r := by rw [if_neg (show ¬ (false = true) by decide)] at H; exact H
             clear H
             have H := H1
             clear H1
             obtain rfl := Option.some.inj H
             have p1320 : 0 ≤ (x5_1 : Int) := of_decide_eq_true z2
             have q1320 : x5_1 < (l0.length : Int) := of_decide_eq_true z2
             obtain ⟨ad1320, A1320_0, c1320_0, e1320, hx1320_0, hl1320_0, hi1320_0⟩ := at_L2 HR0.out x5_1 p1320 q1320
             cases e1320
             have HR1320_0 := Aside0.mk hi1320_0
             have HC1320_0 := Aside0.mk hl1320_0
             clear hi1320_0 hl1320_0
             replace p1320 := eq_true p1320
             replace q1320 := eq_true q1320
             have p1321 : 0 ≤ (x5_1 : Int) := of_decide_eq_true z2
             have q1321 : x5_1 < (l1.length : Int) := of_decide_eq_true z2
             obtain ⟨ad1321, A1321_0, c1321_0, e1321, hx1321_0, hl1321_0, hi1321_0⟩ := at_L2 HR1.out x5_1 p1321 q1321
             cases e1321
             have HR1321_0 := Aside0.mk hi1321_0
             have HC1321_0 := Aside0.mk hl1321_0
             clear hi1321_0 hl1321_0
             replace p1321 := eq_true p1321
             replace q1321 := eq_true q1321
             go_wp2_with (first | (go_at_call 81; (with_reducible refine (laws_eqIntS.calls k1 _ _ (rd_L2 l0 x5_1) _ _ (rd_L2 l1 x5_1) false _ ?side1 ?side2 ?side3 ?side4 A7.out).mono ?_); (case side1 => repeat (first | exact HR1320_0.out | (with_reducible refine Kd.C_alloc ?_ _) | (with_reducible refine Kd.C_drewN ?_ _) | (with_reducible refine Kd.C_drew ?_))); (case side2 => exact HC1320_0.out); (case side3 => repeat (first | exact HR1321_0.out | (with_reducible refine Kd.C_alloc ?_ _) | (with_reducible refine Kd.C_drewN ?_ _) | (with_reducible refine Kd.C_drew ?_))); (case side4 => exact HC1321_0.out); rintro e w' ⟨rfl, ⟨nd, rfl⟩⟩; (try first | exact ⟨rfl, _, World.drewN_drewN _ _ _⟩ | exact ⟨rfl, _, Eq.trans (World.drewN_drewN _ _ _) (congrArg (World.drewN _) (Nat.add_assoc _ _ _))⟩)))
             repeat (go_quiet (first | (go_at_call 81; (with_reducible refine (laws_eqIntS.calls k1 _ _ (rd_L2 l0 x5_1) _ _ (rd_L2 l1 x5_1) false _ ?side1 ?side2 ?side3 ?side4 A7.out).mono ?_); (case side1 => repeat (first | exact HR1320_0.out | (with_reducible refine Kd.C_alloc ?_ _) | (with_reducible refine Kd.C_drewN ?_ _) | (with_reducible refine Kd.C_drew ?_))); (case side2 => exact HC1320_0.out); (case side3 => repeat (first | exact HR1321_0.out | (with_reducible refine Kd.C_alloc ?_ _) | (with_reducible refine Kd.C_drewN ?_ _) | (with_reducible refine Kd.C_drew ?_))); (case side4 => exact HC1321_0.out); rintro e w' ⟨rfl, ⟨nd, rfl⟩⟩; (try first | exact ⟨rfl, _, World.drewN_drewN _ _ _⟩ | exact ⟨rfl, _, Eq.trans (World.drewN_drewN _ _ _) (congrArg (World.drewN _) (Nat.add_assoc _ _ _))⟩))); try go_wp2_with (first | (go_at_call 81; (with_reducible refine (laws_eqIntS.calls k1 _ _ (rd_L2 l0 x5_1) _ _ (rd_L2 l1 x5_1) false _ ?side1 ?side2 ?side3 ?side4 A7.out).mono ?_); (case side1 => repeat (first | exact HR1320_0.out | (with_reducible refine Kd.C_alloc ?_ _) | (with_reducible refine Kd.C_drewN ?_ _) | (with_reducible refine Kd.C_drew ?_))); (case side2 => exact HC1320_0.out); (case side3 => repeat (first | exact HR1321_0.out | (with_reducible refine Kd.C_alloc ?_ _) | (with_reducible refine Kd.C_drewN ?_ _) | (with_reducible refine Kd.C_drew ?_))); (case side4 => exact HC1321_0.out); rintro e w' ⟨rfl, ⟨nd, rfl⟩⟩; (try first | exact ⟨rfl, _, World.drewN_drewN _ _ _⟩ | exact ⟨rfl, _, Eq.trans (World.drewN_drewN _ _ _) (congrArg (World.drewN _) (Nat.add_assoc _ _ _))⟩))))
             go_ret
             exact ⟨by first | rfl | (simp; done) | (simp [*]; done), by repeat (first | exact Drawn0.refl _ | apply Drawn0.step)⟩
         · rw [if_neg c6] at H
           exact absurd H (by simp)
       · rw [if_neg c5] at H
         exact absurd H (by simp)
     · rw [if_neg c4] at H
       have c4b0 : decide (x5_1 < (l0.length : Int)) = false := decide_eq_false c4
       clear c4
       obtain rfl := Option.some.inj H
       go_wp2
       repeat (go_quiet (fail); try go_wp2)
       go_ret
       exact ⟨by first | rfl | (simp; done) | (simp [*]; done), by repeat (first | exact Drawn0.refl _ | apply Drawn0.step)⟩
 · rw [if_neg c3] at H
   have c3b0 : ((l0.length : Int) == (l1.length : Int)) = false := beq_eq_false_iff_ne.mpr c3
   have c3b1 : ((l0.length : Int) != (l1.length : Int)) = true := bne_iff_ne.mpr c3
   have c3b2 : (l0.length == l1.length) = false := by first | simpa using c3 | (simp at c3 ⊢; omega)
   obtain rfl := Option.some.inj H
   go_enter Try.func25, Try.ntmps25
   go_wp2
   repeat (go_quiet (fail); try go_wp2)
   go_ret
   exact ⟨by first | rfl | (simp; done) | (simp [*]; done), by repeat (first | exact Drawn0.refl _ | apply Drawn0.step)⟩
end Go.Proofs.Ythlmmcmpllgflaa.P
namespace Go.Proofs.Ythlmmcmpllgflaa.P
open Go.RowKit Go.Proofs.YthlmmcmpllgflaaW.PrintWords Go.Proofs.YthlmmcmpllgflaaW.PrintLast Go.Proofs.YthlmmcmpllgflaaW.PrintMore
attribute [local go_sem] max2_int min2_int max_two min_two max_three min_three max_four min_four
set_option linter.unusedVariables false
set_option linter.unusedSimpArgs false
def laws_markIntS.l0 : Nat → List Int → Int → Int → Option (Int × List Int)
 | 0, _, _, _ => none
 | k + 1, x0, x1, x5 => if x5 < (x0.length : Int) then (if 0 ≤ x5 then (laws_markIntS.l0 k (x0.set (x5 : Int).toNat x1) (wrap64 (x1 + 1)) (wrap64 (x5 + 1))) else (none)) else (some (x1, x0))
def laws_markIntS.f (k : Nat) (l0 : List Int) (a1 : Int) : Option (Int × List Int) := laws_markIntS.l0 k l0 a1 0
set_option maxHeartbeats 8000000 in
set_option maxRecDepth 100000 in
theorem laws_markIntS.calls (k : Nat) (P0_ : Nat → Prop) (u9000_ : Value) (l0 : List Int) (a1 : Int) (r1 : Int) (r2 : List Int) (w0 w : World) (hB : Below w0.heap.size w0 w) (ho0 : Kd.R (Kd.int .i64) 3 w w0.heap.size P0_ u9000_ l0) (h : laws_markIntS.f k l0 a1 = some (r1, r2)) :
 Calls Try.prog 82 #[u9000_, .int .i64 a1] w fun e w' => e = .returned (.int .i64 r1) ∧ Kd.R (Kd.int .i64) 3 w' w0.heap.size (fun k_ => (P0_ k_ ∨ w.heap.size ≤ k_)) u9000_ r2 ∧ Below w0.heap.size w0 w' ∧ Kept w w' (fun k_ => P0_ k_) := by
 have HO0 := Aside0.mk (show Kd.R (Kd.int .i64) 3 w w0.heap.size (fun k_ => (P0_ k_ ∨ w.heap.size ≤ k_)) u9000_ l0 from Kd.R_mono ho0 (fun k_ hk => (.inl hk)))
 have HK := Aside0.mk (Kept.refl w (fun k_ => P0_ k_))
 have HW0 := Aside0.mk hB.size
 have HB := Aside0.mk hB
 clear hB
 have H : (laws_markIntS.l0 k l0 a1 0) = some (r1, r2) := h
 clear h
 have H' := Aside0.mk H
 clear H
 go_enter Try.func82, Try.ntmps82
 go_wp2
 go_loopg [1, 5] k (fun kq v1 v5 w' => ∃ (x0_1 : List Int) (x1_1 : Int) (x5_1 : Int), v1 = .int .i64 x1_1 ∧ v5 = .int .i64 x5_1 ∧ Aside0 (laws_markIntS.l0 kq x0_1 x1_1 x5_1 = some (r1, r2)) ∧ Aside0 (kq ≤ k) ∧ Aside0 (Kd.R (Kd.int .i64) 3 w' w0.heap.size (fun k_ => (P0_ k_ ∨ w.heap.size ≤ k_)) u9000_ x0_1) ∧ Aside0 (Kept w w' (fun k_ => P0_ k_)) ∧ Aside0 (Below w0.heap.size w0 w'))
 case atStart => exact ⟨(l0), (a1), (0), z3, z3, H', ⟨Nat.le_refl _⟩, ⟨by (with_reducible repeat (first | apply Kd.R_alloc | apply Kd.R_drewN | apply Kd.R_drew)); exact HO0.out⟩, ⟨by repeat (first | (with_reducible first | exact HK.out | apply Kept.alloc | apply Kept.drewN | apply Kept.drew) | exact HK.out)⟩, ⟨by repeat (first | (with_reducible first | exact HB.out | apply below_alloc | apply pw_below_drewN | apply below_drew1) | exact HB.out)⟩⟩
 case round =>
  clear H'
  try clear p2
  obtain ⟨x0_1, x1_1, x5_1, rfl, rfl, HA, HK1, HO_0, HK, HB⟩ := hrel
  cases gk with
  | zero => exact absurd HA.out (by simp [laws_markIntS.l0])
  | succ k1 =>
   have H := HA.out
   clear HA
   simp only [laws_markIntS.l0] at H
   by_cases c3 : x5_1 < (x0_1.length : Int)
   · rw [if_pos c3] at H
     have c3b0 : decide (x5_1 < (x0_1.length : Int)) = true := decide_eq_true c3
     clear c3
     by_cases c4 : 0 ≤ x5_1
     · rw [if_pos c4] at H
       have c4b0 : decide (0 ≤ x5_1) = true := decide_eq_true c4
       clear c4
       obtain ⟨y1323, hy1323⟩ : ∃ y_ : List Int, y_ = (x0_1.set (x5_1 : Int).toNat x1_1) := ⟨_, rfl⟩
       replace H : (laws_markIntS.l0 k1 y1323 (wrap64 (x1_1 + 1)) (wrap64 (x5_1 + 1))) = some (r1, r2) := by first | (rw [hy1323]; with_reducible exact H) | (have H2_ := (Option.bind_some _ _).symm.trans H; rw [hy1323]; with_reducible exact H2_) | (have H2_ := (Option.bind_some _ _).symm.trans H; with_reducible exact H2_) | with_reducible exact H | (rw [hy1323]; exact H) | exact H
       have Ny1323 := Aside0.mk hy1323
       clear hy1323
       have H' := Aside0.mk H
       clear H
       obtain ⟨Ao6, co6, eo6⟩ := Kd.R_slice HO_0.out
       subst eo6
       have p5 : 0 ≤ (x5_1 : Int) := of_decide_eq_true z2
       have q5 : (x5_1 : Int) < ((x0_1.length : Int) : Int) := of_decide_eq_true z2
       obtain ⟨go5, co5, eo5, gb5, gl5, cl5, HG5⟩ := Kd.R_form HO_0.out (by omega)
       (first | cases eo5 | (injection eo5 with ea_ en_ ec_; (first | subst ea_ | (injection ea_ with ea_; subst ea_)); subst ec_; clear en_))
       have GB5 := Aside0.mk gb5
       have GG5 := Aside0.mk HG5
       clear gb5 gl5 HG5
       have HMgo5 := Aside0.mk (show (P0_ go5 ∨ w.heap.size ≤ go5) from (HO_0.out.1 _ rfl))
       obtain ⟨hx5_0, hf5_0⟩ := Kd.R_celln 0 HO_0.out (x5_1 : Int) p5 q5
       replace p5 := eq_true p5
       replace q5 := eq_true q5
       have HP7 := Kd.R_putg HO_0.out (x5_1 : Int) x1_1
       go_wp2_with (first | ((with_reducible refine gate_store (t := 3) (p := 15) rfl ?_); refine store_event (t := 3) (p := 15) (v := ?vo_w8) (w1 := (wr.setCell ⟨go5, (x5_1 : Int).toNat, none⟩ (.int .i64 x1_1))) ?hg ?ho ?hn ?hr ?_; (case ho => rfl); (case hg => rfl); (case hn => rfl); (case hr => first | (go_simp; done) | (go_simp; rfl)); intro w8 hw; have hg : wr.grownBy w8 (some go5) := (by rw [hw]; exact HP7.2); have hp_ : Kd.R (Kd.int .i64) 3 w8 w0.heap.size (fun k_ => (P0_ k_ ∨ w.heap.size ≤ k_)) (.slice (some ⟨go5, 0, none⟩) x0_1.length co6) y1323 := (by rw [hw, Ny1323.out]; exact HP7.1); clear HP7; have n0_ := Aside0.mk (hp_); have n1_ := Aside0.mk ((by rw [hw]; exact below_set (HB.out) GB5.out : Below w0.heap.size w0 w8)); have n2_ := Aside0.mk (Kept.of_grown (S := (fun k_ => P0_ k_)) hg z39 (fun k_ e_ => (HO_0.out.1 k_ e_))); clear HO_0; clear HB; clear HK; have HO_0 := n0_; have HB := n1_; have HK := n2_; clear n0_ n1_ n2_; clear hg hw hp_))
       go_roundg k1
       case measure => have := HK1.out; omega
       case rel => exact ⟨(y1323), (wrap64 (x1_1 + 1)), (wrap64 (x5_1 + 1)), z3, z3, H', ⟨by have := HK1.out; omega⟩, ⟨by (with_reducible repeat (first | apply Kd.R_alloc | apply Kd.R_drewN | apply Kd.R_drew)); exact HO_0.out⟩, ⟨by repeat (first | (with_reducible first | exact HK.out | apply Kept.alloc | apply Kept.drewN | apply Kept.drew) | exact HK.out)⟩, ⟨by repeat (first | (with_reducible first | exact HB.out | apply below_alloc | apply pw_below_drewN | apply below_drew1) | exact HB.out)⟩⟩
     · rw [if_neg c4] at H
       exact absurd H (by simp)
   · rw [if_neg c3] at H
     have c3b0 : decide (x5_1 < (x0_1.length : Int)) = false := decide_eq_false c3
     clear c3
     simp only [Option.some.injEq, Prod.mk.injEq] at H
     obtain ⟨rfl, rfl⟩ := H
     obtain ⟨Ao9, co9, eo9⟩ := Kd.R_slice HO_0.out
     subst eo9
     go_wp2
     go_ret
     exact ⟨by first | rfl | (simp [errW_none, errW_some] <;> rfl) | (simp [*, errW_none, errW_some] <;> rfl), by (with_reducible repeat (first | apply Kd.R_alloc | apply Kd.R_drewN | apply Kd.R_drew)); exact HO_0.out, by repeat (first | (with_reducible first | exact HB.out | apply below_alloc | apply pw_below_drewN | apply below_drew1) | exact HB.out), by repeat (first | (with_reducible first | exact HK.out | apply Kept.alloc | apply Kept.drewN | apply Kept.drew) | exact HK.out)⟩
end Go.Proofs.Ythlmmcmpllgflaa.P
namespace Go.Proofs.Ythlmmcmpllgflaa.P
open Go.RowKit Go.Proofs.YthlmmcmpllgflaaW.PrintWords Go.Proofs.YthlmmcmpllgflaaW.PrintLast Go.Proofs.YthlmmcmpllgflaaW.PrintMore
attribute [local go_sem] max2_int min2_int max_two min_two max_three min_three max_four min_four
set_option linter.unusedVariables false
set_option linter.unusedSimpArgs false
def laws_markChain.f (k : Nat) (l0_0 : List Int) (l0_1 : List Int) (l0_2 : List Int) (a1 : Int) : Option (Int × List Int × List Int × List Int) := (laws_markIntS.f k l0_0 a1).bind fun bt1325 => ((laws_markIntS.f k l0_1 bt1325.1).bind fun bt1327 => ((laws_markIntS.f k l0_2 bt1327.1).bind fun bt1329 => (some (bt1329.1, bt1325.2, bt1327.2, bt1329.2))))
set_option maxHeartbeats 8000000 in
set_option maxRecDepth 100000 in
theorem laws_markChain.calls (k : Nat) (P0_0_ : Nat → Prop) (u9000_ : Value) (l0_0 : List Int) (P0_1_ : Nat → Prop) (u9001_ : Value) (l0_1 : List Int) (P0_2_ : Nat → Prop) (u9002_ : Value) (l0_2 : List Int) (a1 : Int) (r1 : Int) (r2 : List Int) (r3 : List Int) (r4 : List Int) (w0 w : World) (hB : Below w0.heap.size w0 w) (ho0_0 : Kd.R (Kd.int .i64) 3 w w0.heap.size P0_0_ u9000_ l0_0) (hp0_0_0_1 : ∀ k_, P0_0_ k_ → ¬ P0_1_ k_) (hp0_0_0_2 : ∀ k_, P0_0_ k_ → ¬ P0_2_ k_) (ho0_1 : Kd.R (Kd.int .i64) 3 w w0.heap.size P0_1_ u9001_ l0_1) (hp0_1_0_0 : ∀ k_, P0_1_ k_ → ¬ P0_0_ k_) (hp0_1_0_2 : ∀ k_, P0_1_ k_ → ¬ P0_2_ k_) (ho0_2 : Kd.R (Kd.int .i64) 3 w w0.heap.size P0_2_ u9002_ l0_2) (hp0_2_0_0 : ∀ k_, P0_2_ k_ → ¬ P0_0_ k_) (hp0_2_0_1 : ∀ k_, P0_2_ k_ → ¬ P0_1_ k_) (h : laws_markChain.f k l0_0 l0_1 l0_2 a1 = some (r1, r2, r3, r4)) :
 Calls Try.prog 26 #[.agg #[u9000_, u9001_, u9002_], .int .i64 a1] w fun e w' => e = .returned (.int .i64 r1) ∧ Kd.R (Kd.int .i64) 3 w' w0.heap.size (fun k_ => ((P0_0_ k_ ∨ P0_1_ k_ ∨ P0_2_ k_) ∨ w.heap.size ≤ k_)) u9000_ r2 ∧ Kd.R (Kd.int .i64) 3 w' w0.heap.size (fun k_ => ((P0_0_ k_ ∨ P0_1_ k_ ∨ P0_2_ k_) ∨ w.heap.size ≤ k_)) u9001_ r3 ∧ Kd.R (Kd.int .i64) 3 w' w0.heap.size (fun k_ => ((P0_0_ k_ ∨ P0_1_ k_ ∨ P0_2_ k_) ∨ w.heap.size ≤ k_)) u9002_ r4 ∧ Below w0.heap.size w0 w' ∧ Kept w w' (fun k_ => P0_0_ k_ ∨ P0_1_ k_ ∨ P0_2_ k_) := by
 have hu26 := Try.underlying26
 have HO0_0 := Aside0.mk (show Kd.R (Kd.int .i64) 3 w w0.heap.size (fun k_ => ((P0_0_ k_ ∨ P0_1_ k_ ∨ P0_2_ k_) ∨ w.heap.size ≤ k_) ∧ some k_ ≠ (u9001_ : Value).ownBlock ∧ some k_ ≠ (u9002_ : Value).ownBlock) u9000_ l0_0 from Kd.R_mono ho0_0 (fun k_ hk => ⟨(.inl (.inl hk)), fun e_ => hp0_0_0_1 k_ hk (ho0_1.1 k_ e_.symm), fun e_ => hp0_0_0_2 k_ hk (ho0_2.1 k_ e_.symm)⟩))
 have HO0_1 := Aside0.mk (show Kd.R (Kd.int .i64) 3 w w0.heap.size (fun k_ => ((P0_0_ k_ ∨ P0_1_ k_ ∨ P0_2_ k_) ∨ w.heap.size ≤ k_) ∧ some k_ ≠ (u9000_ : Value).ownBlock ∧ some k_ ≠ (u9002_ : Value).ownBlock) u9001_ l0_1 from Kd.R_mono ho0_1 (fun k_ hk => ⟨(.inl (.inr (.inl hk))), fun e_ => hp0_1_0_0 k_ hk (ho0_0.1 k_ e_.symm), fun e_ => hp0_1_0_2 k_ hk (ho0_2.1 k_ e_.symm)⟩))
 have HO0_2 := Aside0.mk (show Kd.R (Kd.int .i64) 3 w w0.heap.size (fun k_ => ((P0_0_ k_ ∨ P0_1_ k_ ∨ P0_2_ k_) ∨ w.heap.size ≤ k_) ∧ some k_ ≠ (u9000_ : Value).ownBlock ∧ some k_ ≠ (u9001_ : Value).ownBlock) u9002_ l0_2 from Kd.R_mono ho0_2 (fun k_ hk => ⟨(.inl (.inr (.inr hk))), fun e_ => hp0_2_0_0 k_ hk (ho0_0.1 k_ e_.symm), fun e_ => hp0_2_0_1 k_ hk (ho0_1.1 k_ e_.symm)⟩))
 have HK := Aside0.mk (Kept.refl w (fun k_ => P0_0_ k_ ∨ P0_1_ k_ ∨ P0_2_ k_))
 have HW0 := Aside0.mk hB.size
 have HB := Aside0.mk hB
 clear hB
 have H : ((laws_markIntS.f k l0_0 a1).bind fun bt1325 => ((laws_markIntS.f k l0_1 bt1325.1).bind fun bt1327 => ((laws_markIntS.f k l0_2 bt1327.1).bind fun bt1329 => (some (bt1329.1, bt1325.2, bt1327.2, bt1329.2))))) = some (r1, r2, r3, r4) := h
 clear h
 replace H := Option.bind_eq_some_iff.mp H
 obtain ⟨⟨t1325, t1326⟩, A30, H⟩ := H
 replace H : ((laws_markIntS.f k l0_1 t1325).bind fun bt1327 => ((laws_markIntS.f k l0_2 bt1327.1).bind fun bt1329 => (some (bt1329.1, t1326, bt1327.2, bt1329.2)))) = some (r1, r2, r3, r4) := H
 have A3 := Aside0.mk A30
 clear A30
 replace H := Option.bind_eq_some_iff.mp H
 obtain ⟨⟨t1327, t1328⟩, A40, H⟩ := H
 replace H : ((laws_markIntS.f k l0_2 t1327).bind fun bt1329 => (some (bt1329.1, t1326, t1328, bt1329.2))) = some (r1, r2, r3, r4) := H
 have A4 := Aside0.mk A40
 clear A40
 replace H := Option.bind_eq_some_iff.mp H
 obtain ⟨⟨t1329, t1330⟩, A50, H⟩ := H
 replace H : (some (t1329, t1326, t1328, t1330)) = some (r1, r2, r3, r4) := H
 have A5 := Aside0.mk A50
 clear A50
 simp only [Option.some.injEq, Prod.mk.injEq] at H
 obtain ⟨rfl, rfl, rfl, rfl⟩ := H
 obtain ⟨Ao6, co6, eo6⟩ := Kd.R_slice HO0_0.out
 subst eo6
 obtain ⟨Ao7, co7, eo7⟩ := Kd.R_slice HO0_1.out
 subst eo7
 obtain ⟨Ao8, co8, eo8⟩ := Kd.R_slice HO0_2.out
 subst eo8
 go_enter Try.func26, Try.ntmps26
 go_wp2_with (first | ((with_reducible refine gate_dst (N := 2) rfl ?_); refine box_event ?hg (N := 2) ?hd (cs := #[.slice Ao6 l0_0.length co6, .slice Ao7 l0_1.length co7, .slice Ao8 l0_2.length co8]) (t := 26) ?hr ?_; (case hd => rfl); (case hg => rfl); (case hr => first | (go_simp; done) | (go_simp; rfl)); intro gb1324 hg w9 hbox hb; have n0_ := Aside0.mk (Kd.R_below (zR HO0_0.out) hb); have n1_ := Aside0.mk (Kd.R_below (zR HO0_1.out) hb); have n2_ := Aside0.mk (Kd.R_below (zR HO0_2.out) hb); have n3_ := Aside0.mk (Kept.below (S := (fun k_ => P0_0_ k_ ∨ P0_1_ k_ ∨ P0_2_ k_)) z39 hb); have n4_ := Aside0.mk (below_step zH0 hb); have n5_ := Aside0.mk (hbox); have n6_ := Aside0.mk ((by rw [hg]; exact (by first | exact HK.out.1 | exact (show Kept w _ (fun k_ => P0_0_ k_ ∨ P0_1_ k_ ∨ P0_2_ k_) from by repeat (first | (with_reducible first | exact HK.out | apply Kept.alloc | apply Kept.drewN | apply Kept.drew) | exact HK.out)).1) : w.heap.size ≤ gb1324)); have n7_ := Aside0.mk ((z6 : w0.heap.size ≤ gb1324)); clear HO0_0; clear HO0_1; clear HO0_2; clear HK; clear HB; have HO0_0 := n0_; have HO0_1 := n1_; have HO0_2 := n2_; have HK := n3_; have HB := n4_; have BK1324 := n5_; have GW1324 := n6_; have GE1324 := n7_; clear n0_ n1_ n2_ n3_ n4_ n5_ n6_ n7_; clear hb hbox hg; have hcz10_0 : w9.cell? ⟨gb1324, 0, none⟩ = some (.slice Ao6 l0_0.length co6) := (blk_cell BK1324.out 0).trans rfl; have hcz10_1 : w9.cell? ⟨gb1324, 1, none⟩ = some (.slice Ao7 l0_1.length co7) := (blk_cell BK1324.out 1).trans rfl; have hcz10_2 : w9.cell? ⟨gb1324, 2, none⟩ = some (.slice Ao8 l0_2.length co8) := (blk_cell BK1324.out 2).trans rfl; have hfz10_0 := blk_frozen BK1324.out 0; have hfz10_1 := blk_frozen BK1324.out 1; have hfz10_2 := blk_frozen BK1324.out 2) | ((with_reducible refine gate_callee (f := 82) rfl ?_); refine goesL_ (some 8) rfl rfl Try.func82 (by kernel_rfl) rfl #[.slice Ao6 l0_0.length co6, .int .i64 a1] rfl z1 ?_; (with_reducible refine (laws_markIntS.calls k (fun k_ => some k_ = (.slice Ao6 l0_0.length co6 : Value).ownBlock) (.slice Ao6 l0_0.length co6) l0_0 a1 t1325 t1326 w0 _ ?side1 ?side2 A3.out).mono ?_); (case side1 => repeat (first | (with_reducible first | exact HB.out | apply below_alloc | apply pw_below_drewN | apply below_drew1 | refine below_set ?_ GE1324.out) | exact HB.out)); (case side2 => exact Kd.R_tight rfl HO0_0.out); rintro e w11 ⟨rfl, hy0, hb, hkp⟩; refine ⟨_, rfl, ?_⟩; have n0_ := Aside0.mk (Kd.R_reok rfl hy0 (fun k_ e_ => HO0_0.out.1 k_ e_)); have n1_ := Aside0.mk (Kd.R_mono (ok' := fun k_ => ((P0_0_ k_ ∨ P0_1_ k_ ∨ P0_2_ k_) ∨ w.heap.size ≤ k_) ∧ some k_ ≠ (.slice Ao6 l0_0.length co6 : Value).ownBlock ∧ some k_ ≠ (.slice Ao8 l0_2.length co8 : Value).ownBlock) (Kd.R_keptB (HO0_1.out) hkp (fun k_ hk_ hs_ => (hk_.2.1) hs_)) (fun k_ hk_ => ⟨hk_.1.1, hk_.1.2.1, hk_.1.2.2⟩)); have n2_ := Aside0.mk (Kd.R_mono (ok' := fun k_ => ((P0_0_ k_ ∨ P0_1_ k_ ∨ P0_2_ k_) ∨ w.heap.size ≤ k_) ∧ some k_ ≠ (.slice Ao6 l0_0.length co6 : Value).ownBlock ∧ some k_ ≠ (.slice Ao7 l0_1.length co7 : Value).ownBlock) (Kd.R_keptB (HO0_2.out) hkp (fun k_ hk_ hs_ => (hk_.2.1) hs_)) (fun k_ hk_ => ⟨hk_.1.1, hk_.1.2.1, hk_.1.2.2⟩)); have n3_ := Aside0.mk (blk_kept (zB BK1324.out) hkp (fun hs_ => (fun e_ => (Kd.R_ne HO0_0.out BK1324.out (by decide)) e_) hs_)); have n4_ := Aside0.mk (Kept.then_ (S := (fun k_ => P0_0_ k_ ∨ P0_1_ k_ ∨ P0_2_ k_)) z34 hkp (fun k_ hs_ => (fun e_ => (HO0_0.out.1 k_ e_.symm).1) hs_)); have n5_ := Aside0.mk (hb); clear HO0_0; clear HO0_1; clear HO0_2; clear BK1324; clear HK; clear HB; have HO0_0 := n0_; have HO0_1 := n1_; have HO0_2 := n2_; have BK1324 := n3_; have HK := n4_; have HB := n5_; clear n0_ n1_ n2_ n3_ n4_ n5_; (try clear hb); (try clear hkp); (try clear hy0); have hcz12_0 : w11.cell? ⟨gb1324, 0, none⟩ = some (.slice Ao6 l0_0.length co6) := (blk_cell BK1324.out 0).trans rfl; have hcz12_1 : w11.cell? ⟨gb1324, 1, none⟩ = some (.slice Ao7 l0_1.length co7) := (blk_cell BK1324.out 1).trans rfl; have hcz12_2 : w11.cell? ⟨gb1324, 2, none⟩ = some (.slice Ao8 l0_2.length co8) := (blk_cell BK1324.out 2).trans rfl; have hfz12_0 := blk_frozen BK1324.out 0; have hfz12_1 := blk_frozen BK1324.out 1; have hfz12_2 := blk_frozen BK1324.out 2) | ((with_reducible refine gate_callee (f := 82) rfl ?_); refine goesL_ (some 12) rfl rfl Try.func82 (by kernel_rfl) rfl #[.slice Ao7 l0_1.length co7, .int .i64 t1325] rfl z1 ?_; (with_reducible refine (laws_markIntS.calls k (fun k_ => some k_ = (.slice Ao7 l0_1.length co7 : Value).ownBlock) (.slice Ao7 l0_1.length co7) l0_1 t1325 t1327 t1328 w0 _ ?side1 ?side2 A4.out).mono ?_); (case side1 => repeat (first | (with_reducible first | exact HB.out | apply below_alloc | apply pw_below_drewN | apply below_drew1 | refine below_set ?_ GE1324.out) | exact HB.out)); (case side2 => exact Kd.R_tight rfl HO0_1.out); rintro e w13 ⟨rfl, hy0, hb, hkp⟩; refine ⟨_, rfl, ?_⟩; have n0_ := Aside0.mk (Kd.R_mono (ok' := fun k_ => ((P0_0_ k_ ∨ P0_1_ k_ ∨ P0_2_ k_) ∨ w.heap.size ≤ k_) ∧ some k_ ≠ (.slice Ao7 l0_1.length co7 : Value).ownBlock ∧ some k_ ≠ (.slice Ao8 l0_2.length co8 : Value).ownBlock) (Kd.R_keptB (HO0_0.out) hkp (fun k_ hk_ hs_ => (hk_.2.1) hs_)) (fun k_ hk_ => ⟨hk_.1.1, hk_.1.2.1, hk_.1.2.2⟩)); have n1_ := Aside0.mk (Kd.R_reok rfl hy0 (fun k_ e_ => HO0_1.out.1 k_ e_)); have n2_ := Aside0.mk (Kd.R_mono (ok' := fun k_ => ((P0_0_ k_ ∨ P0_1_ k_ ∨ P0_2_ k_) ∨ w.heap.size ≤ k_) ∧ some k_ ≠ (.slice Ao6 l0_0.length co6 : Value).ownBlock ∧ some k_ ≠ (.slice Ao7 l0_1.length co7 : Value).ownBlock) (Kd.R_keptB (HO0_2.out) hkp (fun k_ hk_ hs_ => (hk_.2.2) hs_)) (fun k_ hk_ => ⟨hk_.1.1, hk_.1.2.1, hk_.1.2.2⟩)); have n3_ := Aside0.mk (blk_kept (zB BK1324.out) hkp (fun hs_ => (fun e_ => (Kd.R_ne HO0_1.out BK1324.out (by decide)) e_) hs_)); have n4_ := Aside0.mk (Kept.then_ (S := (fun k_ => P0_0_ k_ ∨ P0_1_ k_ ∨ P0_2_ k_)) z34 hkp (fun k_ hs_ => (fun e_ => (HO0_1.out.1 k_ e_.symm).1) hs_)); have n5_ := Aside0.mk (hb); clear HO0_0; clear HO0_1; clear HO0_2; clear BK1324; clear HK; clear HB; have HO0_0 := n0_; have HO0_1 := n1_; have HO0_2 := n2_; have BK1324 := n3_; have HK := n4_; have HB := n5_; clear n0_ n1_ n2_ n3_ n4_ n5_; (try clear hb); (try clear hkp); (try clear hy0); have hcz14_0 : w13.cell? ⟨gb1324, 0, none⟩ = some (.slice Ao6 l0_0.length co6) := (blk_cell BK1324.out 0).trans rfl; have hcz14_1 : w13.cell? ⟨gb1324, 1, none⟩ = some (.slice Ao7 l0_1.length co7) := (blk_cell BK1324.out 1).trans rfl; have hcz14_2 : w13.cell? ⟨gb1324, 2, none⟩ = some (.slice Ao8 l0_2.length co8) := (blk_cell BK1324.out 2).trans rfl; have hfz14_0 := blk_frozen BK1324.out 0; have hfz14_1 := blk_frozen BK1324.out 1; have hfz14_2 := blk_frozen BK1324.out 2) | ((with_reducible refine gate_callee (f := 82) rfl ?_); refine goesL_ (some 16) rfl rfl Try.func82 (by kernel_rfl) rfl #[.slice Ao8 l0_2.length co8, .int .i64 t1327] rfl z1 ?_; (with_reducible refine (laws_markIntS.calls k (fun k_ => some k_ = (.slice Ao8 l0_2.length co8 : Value).ownBlock) (.slice Ao8 l0_2.length co8) l0_2 t1327 t1329 t1330 w0 _ ?side1 ?side2 A5.out).mono ?_); (case side1 => repeat (first | (with_reducible first | exact HB.out | apply below_alloc | apply pw_below_drewN | apply below_drew1 | refine below_set ?_ GE1324.out) | exact HB.out)); (case side2 => exact Kd.R_tight rfl HO0_2.out); rintro e w15 ⟨rfl, hy0, hb, hkp⟩; refine ⟨_, rfl, ?_⟩; have n0_ := Aside0.mk (Kd.R_mono (ok' := fun k_ => ((P0_0_ k_ ∨ P0_1_ k_ ∨ P0_2_ k_) ∨ w.heap.size ≤ k_) ∧ some k_ ≠ (.slice Ao7 l0_1.length co7 : Value).ownBlock ∧ some k_ ≠ (.slice Ao8 l0_2.length co8 : Value).ownBlock) (Kd.R_keptB (HO0_0.out) hkp (fun k_ hk_ hs_ => (hk_.2.2) hs_)) (fun k_ hk_ => ⟨hk_.1.1, hk_.1.2.1, hk_.1.2.2⟩)); have n1_ := Aside0.mk (Kd.R_mono (ok' := fun k_ => ((P0_0_ k_ ∨ P0_1_ k_ ∨ P0_2_ k_) ∨ w.heap.size ≤ k_) ∧ some k_ ≠ (.slice Ao6 l0_0.length co6 : Value).ownBlock ∧ some k_ ≠ (.slice Ao8 l0_2.length co8 : Value).ownBlock) (Kd.R_keptB (HO0_1.out) hkp (fun k_ hk_ hs_ => (hk_.2.2) hs_)) (fun k_ hk_ => ⟨hk_.1.1, hk_.1.2.1, hk_.1.2.2⟩)); have n2_ := Aside0.mk (Kd.R_reok rfl hy0 (fun k_ e_ => HO0_2.out.1 k_ e_)); have n3_ := Aside0.mk (blk_kept (zB BK1324.out) hkp (fun hs_ => (fun e_ => (Kd.R_ne HO0_2.out BK1324.out (by decide)) e_) hs_)); have n4_ := Aside0.mk (Kept.then_ (S := (fun k_ => P0_0_ k_ ∨ P0_1_ k_ ∨ P0_2_ k_)) z34 hkp (fun k_ hs_ => (fun e_ => (HO0_2.out.1 k_ e_.symm).1) hs_)); have n5_ := Aside0.mk (hb); clear HO0_0; clear HO0_1; clear HO0_2; clear BK1324; clear HK; clear HB; have HO0_0 := n0_; have HO0_1 := n1_; have HO0_2 := n2_; have BK1324 := n3_; have HK := n4_; have HB := n5_; clear n0_ n1_ n2_ n3_ n4_ n5_; (try clear hb); (try clear hkp); (try clear hy0)))
 go_ret
 exact ⟨by first | rfl | (simp [errW_none, errW_some] <;> rfl) | (simp [*, errW_none, errW_some] <;> rfl), by (with_reducible repeat (first | apply Kd.R_alloc | apply Kd.R_drewN | apply Kd.R_drew)); exact Kd.R_mono HO0_0.out (fun _ hk => hk.1), by (with_reducible repeat (first | apply Kd.R_alloc | apply Kd.R_drewN | apply Kd.R_drew)); exact Kd.R_mono HO0_1.out (fun _ hk => hk.1), by (with_reducible repeat (first | apply Kd.R_alloc | apply Kd.R_drewN | apply Kd.R_drew)); exact Kd.R_mono HO0_2.out (fun _ hk => hk.1), by repeat (first | (with_reducible first | exact HB.out | apply below_alloc | apply pw_below_drewN | apply below_drew1 | refine below_set ?_ GE1324.out) | exact HB.out), by repeat (first | (with_reducible first | exact HK.out | apply Kept.alloc | apply Kept.drewN | apply Kept.drew | refine Kept.setCell ?_ (.inr GW1324.out) _) | exact HK.out)⟩
end Go.Proofs.Ythlmmcmpllgflaa.P
namespace Go.Proofs.Ythlmmcmpllgflaa.P
open Go.RowKit Go.Proofs.YthlmmcmpllgflaaW.PrintWords Go.Proofs.YthlmmcmpllgflaaW.PrintLast Go.Proofs.YthlmmcmpllgflaaW.PrintMore
attribute [local go_sem] max2_int min2_int max_two min_two max_three min_three max_four min_four
set_option linter.unusedVariables false
set_option linter.unusedSimpArgs false
def laws_markIntSS.l0 : Nat → List (List Int) → Int → Int → Option (Int × List (List Int))
 | 0, _, _, _ => none
 | k + 1, x0, x1, x5 => if x5 < (x0.length : Int) then (if 0 ≤ x5 then ((laws_markIntS.f k (rd_L2 x0 x5) x1).bind fun bt => (laws_markIntSS.l0 k (x0.set (x5 : Int).toNat bt.2) bt.1 (wrap64 (x5 + 1)))) else (none)) else (some (x1, x0))
def laws_markIntSS.f (k : Nat) (l0 : List (List Int)) (a1 : Int) : Option (Int × List (List Int)) := laws_markIntSS.l0 k l0 a1 0
set_option maxHeartbeats 8000000 in
set_option maxRecDepth 100000 in
theorem laws_markIntSS.calls (k : Nat) (P0_ : Nat → Prop) (u9000_ : Value) (l0 : List (List Int)) (a1 : Int) (r1 : Int) (r2 : List (List Int)) (w0 w : World) (hB : Below w0.heap.size w0 w) (ho0 : Kd.S (Kd.slice 3 (Kd.int .i64)) 24 w w0.heap.size P0_ u9000_ l0) (h : laws_markIntSS.f k l0 a1 = some (r1, r2)) :
 Calls Try.prog 27 #[u9000_, .int .i64 a1] w fun e w' => e = .returned (.int .i64 r1) ∧ Kd.S (Kd.slice 3 (Kd.int .i64)) 24 w' w0.heap.size (fun k_ => (P0_ k_ ∨ w.heap.size ≤ k_)) u9000_ r2 ∧ Below w0.heap.size w0 w' ∧ Kept w w' (fun k_ => P0_ k_) := by
 have HO0 := Aside0.mk (show Kd.S (Kd.slice 3 (Kd.int .i64)) 24 w w0.heap.size (fun k_ => (P0_ k_ ∨ w.heap.size ≤ k_)) u9000_ l0 from Kd.S_mono ho0 (fun k_ hk => (.inl hk)))
 have HK := Aside0.mk (Kept.refl w (fun k_ => P0_ k_))
 have HB := Aside0.mk hB
 clear hB
 have H : (laws_markIntSS.l0 k l0 a1 0) = some (r1, r2) := h
 clear h
 have H' := Aside0.mk H
 clear H
 go_enter Try.func27, Try.ntmps27
 go_wp2
 go_loopg [1, 5] k (fun kq v1 v5 w' => ∃ (x0_1 : List (List Int)) (x1_1 : Int) (x5_1 : Int), v1 = .int .i64 x1_1 ∧ v5 = .int .i64 x5_1 ∧ Aside0 (laws_markIntSS.l0 kq x0_1 x1_1 x5_1 = some (r1, r2)) ∧ Aside0 (kq ≤ k) ∧ Aside0 (Kd.S (Kd.slice 3 (Kd.int .i64)) 24 w' w0.heap.size (fun k_ => (P0_ k_ ∨ w.heap.size ≤ k_)) u9000_ x0_1) ∧ Aside0 (Kept w w' (fun k_ => P0_ k_)) ∧ Aside0 (Below w0.heap.size w0 w'))
 case atStart => exact ⟨(l0), (a1), (0), rfl, rfl, H', ⟨Nat.le_refl _⟩, ⟨by (with_reducible repeat (first | apply Kd.S_alloc | apply Kd.S_drewN | apply Kd.S_drew)); exact HO0.out⟩, ⟨by repeat (first | (with_reducible first | exact HK.out | apply Kept.alloc | apply Kept.drewN | apply Kept.drew) | exact HK.out)⟩, ⟨by repeat (first | (with_reducible first | exact HB.out | apply below_alloc | apply pw_below_drewN | apply below_drew1) | exact HB.out)⟩⟩
 case round =>
  clear H'
  try clear p2
  obtain ⟨x0_1, x1_1, x5_1, rfl, rfl, HA, HK1, HO_0, HK, HB⟩ := hrel
  cases gk with
  | zero => exact absurd HA.out (by simp [laws_markIntSS.l0])
  | succ k1 =>
   have H := HA.out
   clear HA
   simp only [laws_markIntSS.l0] at H
   obtain ⟨Ao6, co6, eo6⟩ := Kd.S_slice HO_0.out
   subst eo6
   by_cases c3 : x5_1 < (x0_1.length : Int)
   · rw [if_pos c3] at H
     have c3b0 : decide (x5_1 < (x0_1.length : Int)) = true := decide_eq_true c3
     by_cases c4 : 0 ≤ x5_1
     · rw [if_pos c4] at H
       replace H := Option.bind_eq_some_iff.mp H
       obtain ⟨⟨t1, t2⟩, A50, H⟩ := H
       replace H : (laws_markIntSS.l0 k1 (x0_1.set (x5_1 : Int).toNat t2) t1 (wrap64 (x5_1 + 1))) = some (r1, r2) := H
       have A5 := Aside0.mk A50
       clear A50
       have H' := Aside0.mk H
       clear H
       obtain ⟨go5, co5, eo5, gb5, gl5, cl5, HG5⟩ := Kd.S_form HO_0.out (by omega)
       (first | cases eo5 | (injection eo5 with ea_ en_ ec_; (first | subst ea_ | (injection ea_ with ea_; subst ea_)); subst ec_; clear en_))
       clear gb5 gl5 HG5
       obtain ⟨oki, ce, hcl, hM, hcc, hfr, hoki, hH⟩ := Kd.S_elem HO_0.out [] x5_1 c4 c3
       obtain ⟨ve, rfl, hE⟩ := hM
       obtain ⟨Ae, cae, rfl⟩ := Kd.R_slice hE
       have hx5 : wr.cell? ⟨go5, (x5_1 : Int).toNat, none⟩ = some (.slice Ae (rd_L2 x0_1 x5_1).length cae) := by have := hcc 0 _ rfl; simpa [Kd.slice, rd_L2] using this
       have hf5 : wr.frozen? ⟨go5, (x5_1 : Int).toNat, none⟩ = false := by have := hfr 0; simpa [Kd.slice] using this
       have HE := Aside0.mk hE
       have HH := Aside0.mk hH
       have HI := Aside0.mk hoki
       clear hE hH hoki hcc hfr hcl
       replace c4 := eq_true c4
       replace c3 := eq_true c3
       go_wp2_with (first | ((with_reducible refine gate_callee (f := 82) rfl ?_); refine goesL_ (some 17) rfl rfl Try.func82 (by kernel_rfl) rfl #[.slice Ae (rd_L2 x0_1 x5_1).length cae, .int .i64 x1_1] rfl (by (try simp only [List.map_toArray, List.map_cons, List.map_nil]); first | done | rfl) ?_; (with_reducible refine (laws_markIntS.calls k1 (fun k_ => oki k_) (.slice Ae (rd_L2 x0_1 x5_1).length cae) (rd_L2 x0_1 x5_1) x1_1 t1 t2 w0 _ ?side1 ?side2 A5.out).mono ?_); (case side1 => repeat (first | (with_reducible first | exact HB.out | apply below_alloc | apply pw_below_drewN | apply below_drew1) | exact HB.out)); (case side2 => (with_reducible repeat (first | apply Kd.R_alloc | apply Kd.R_drewN | apply Kd.R_drew)); exact HE.out); rintro e w11 ⟨rfl, hy0, hb, hkp⟩; refine ⟨_, rfl, ?_⟩; have h2_ := Kd.H_kept HH.out hkp (fun k_ _ hn => hn); have h3_ := Kd.R_reok (ok := oki) rfl hy0 (fun k_ e_ => HE.out.1 k_ e_); have n0_ := Aside0.mk (Kd.H_back h2_ (x' := t2) (okp := oki) ⟨_, rfl, h3_⟩ (fun _ hk => hk)); clear h2_ h3_; have n1_ := Aside0.mk (Kept.then_ (S := (fun k_ => P0_ k_)) z39 hkp (fun k_ hs_ => (HI.out k_ hs_).1)); have n2_ := Aside0.mk hb; clear HO_0; clear HK; clear HB; clear HH; clear HE; have HO_0 := n0_; have HK := n1_; have HB := n2_; clear n0_ n1_ n2_; (try clear hb); (try clear hkp); (try clear hy0); (try clear hx5); (try clear hf5)))
       go_roundg k1
       case measure => have := HK1.out; omega
       case rel => exact ⟨_, t1, (wrap64 (x5_1 + 1)), rfl, z3, H', ⟨by have := HK1.out; omega⟩, ⟨by (with_reducible repeat (first | apply Kd.S_alloc | apply Kd.S_drewN | apply Kd.S_drew)); exact HO_0.out⟩, ⟨by repeat (first | (with_reducible first | exact HK.out | apply Kept.alloc | apply Kept.drewN | apply Kept.drew) | exact HK.out)⟩, ⟨by repeat (first | (with_reducible first | exact HB.out | apply below_alloc | apply pw_below_drewN | apply below_drew1) | exact HB.out)⟩⟩
     · rw [if_neg c4] at H
       exact absurd H (by simp)
   · rw [if_neg c3] at H
     have c3b0 : decide (x5_1 < (x0_1.length : Int)) = false := decide_eq_false c3
     clear c3
     simp only [Option.some.injEq, Prod.mk.injEq] at H
     obtain ⟨rfl, rfl⟩ := H
     go_wp2
     go_ret
     exact ⟨by first | rfl | (simp; done) | (simp [*]; done), by (with_reducible repeat (first | apply Kd.S_alloc | apply Kd.S_drewN | apply Kd.S_drew)); exact HO_0.out, by repeat (first | (with_reducible first | exact HB.out | apply below_alloc | apply pw_below_drewN | apply below_drew1) | exact HB.out), by repeat (first | (with_reducible first | exact HK.out | apply Kept.alloc | apply Kept.drewN | apply Kept.drew) | exact HK.out)⟩
end Go.Proofs.Ythlmmcmpllgflaa.P
namespace Go.Proofs.Ythlmmcmpllgflaa.P
open Go.RowKit Go.Proofs.YthlmmcmpllgflaaW.PrintWords Go.Proofs.YthlmmcmpllgflaaW.PrintLast Go.Proofs.YthlmmcmpllgflaaW.PrintMore
attribute [local go_sem] max2_int min2_int max_two min_two max_three min_three max_four min_four
set_option linter.unusedVariables false
set_option linter.unusedSimpArgs false
def laws_heldIntS.l0 : Nat → List Int → Int → Int → Option (Int)
 | 0, _, _, _ => none
 | k + 1, x0, x1, x5 => if x5 < (x0.length : Int) then (if 0 ≤ x5 then (if (rd x0 x5) = x1 then (laws_heldIntS.l0 k x0 (wrap64 (x1 + 1)) (wrap64 (x5 + 1))) else (some (-1))) else (none)) else (some x1)
def laws_heldIntS.f (k : Nat) (l0 : List Int) (a1 : Int) : Option (Int) := laws_heldIntS.l0 k l0 a1 0
set_option maxHeartbeats 8000000 in
set_option maxRecDepth 100000 in
theorem laws_heldIntS.calls (k : Nat) (A0 : Option Addr) (c0 : Nat) (l0 : List Int) (a1 : Int) (r : Int) (w : World) (hr0 : Kd.C (Kd.int .i64) w A0 l0.length l0) (hc0 : l0.length ≤ c0) (h : laws_heldIntS.f k l0 a1 = some r) :
 Calls Try.prog 83 #[.slice A0 l0.length c0, .int .i64 a1] w fun e w' => e = .returned (.int .i64 r) ∧ Drawn0 w w' := by
 have HR0 := Aside0.mk hr0
 have HC0 := Aside0.mk hc0
 clear hr0 hc0
 have H : (laws_heldIntS.l0 k l0 a1 0) = some r := h
 clear h
 have H' := Aside0.mk H
 clear H
 go_enter Try.func83, Try.ntmps83
 go_wp2
 go_loopg [1, 5] k (fun kq v1 v5 w' => ∃ (x1_1 : Int) (x5_1 : Int), v1 = .int .i64 x1_1 ∧ v5 = .int .i64 x5_1 ∧ Aside0 (laws_heldIntS.l0 kq l0 x1_1 x5_1 = some r) ∧ Aside0 (kq ≤ k) ∧ Drawn0 w w')
 case atStart => exact ⟨(a1), (0), z3, z3, H', ⟨Nat.le_refl _⟩, by repeat (first | exact Drawn0.refl _ | apply Drawn0.step)⟩
 case round =>
  clear H'
  try clear p2
  obtain ⟨x1_1, x5_1, rfl, rfl, HA, HK1, ⟨m1, rfl⟩⟩ := hrel
  cases gk with
  | zero => exact absurd HA.out (by simp [laws_heldIntS.l0])
  | succ k1 =>
   have H := HA.out
   clear HA
   simp only [laws_heldIntS.l0] at H
   by_cases c3 : x5_1 < (l0.length : Int)
   · rw [if_pos c3] at H
     have c3b0 : decide (x5_1 < (l0.length : Int)) = true := decide_eq_true c3
     clear c3
     by_cases c4 : 0 ≤ x5_1
     · rw [if_pos c4] at H
       have c4b0 : decide (0 ≤ x5_1) = true := decide_eq_true c4
       clear c4
       by_cases c5 : (rd l0 x5_1) = x1_1
       · rw [if_pos c5] at H
         have c5b0 : ((rd l0 x5_1) == x1_1) = true := beq_iff_eq.mpr c5
         have c5b1 : ((rd l0 x5_1) != x1_1) = false := bne_eq_false_iff_eq.mpr c5
         clear c5
         have H' := Aside0.mk H
         clear H
         have p1731 : 0 ≤ (x5_1 : Int) := of_decide_eq_true z2
         have q1731 : x5_1 < (l0.length : Int) := of_decide_eq_true z2
         obtain ⟨ad1731, e1731, hx1731_0⟩ := Kd.at_int HR0.out x5_1 p1731 q1731
         cases e1731
         replace p1731 := eq_true p1731
         replace q1731 := eq_true q1731
         go_wp2
         go_roundg k1
         case measure => have := HK1.out; omega
         case rel => exact ⟨(wrap64 (x1_1 + 1)), (wrap64 (x5_1 + 1)), z3, z3, H', ⟨by have := HK1.out; omega⟩, by repeat (first | exact Drawn0.refl _ | apply Drawn0.step)⟩
       · rw [if_neg c5] at H
         have c5b0 : ((rd l0 x5_1) == x1_1) = false := beq_eq_false_iff_ne.mpr c5
         have c5b1 : ((rd l0 x5_1) != x1_1) = true := bne_iff_ne.mpr c5
         obtain rfl := Option.some.inj H
         have p1731 : 0 ≤ (x5_1 : Int) := of_decide_eq_true z2
         have q1731 : x5_1 < (l0.length : Int) := of_decide_eq_true z2
         obtain ⟨ad1731, e1731, hx1731_0⟩ := Kd.at_int HR0.out x5_1 p1731 q1731
         cases e1731
         replace p1731 := eq_true p1731
         replace q1731 := eq_true q1731
         go_wp2
         go_ret
         exact ⟨by first | rfl | (simp; done) | (simp [*]; done), by repeat (first | exact Drawn0.refl _ | apply Drawn0.step)⟩
     · rw [if_neg c4] at H
       exact absurd H (by simp)
   · rw [if_neg c3] at H
     have c3b0 : decide (x5_1 < (l0.length : Int)) = false := decide_eq_false c3
     clear c3
     obtain rfl := Option.some.inj H
     go_wp2
     go_ret
     exact ⟨by first | rfl | (simp; done) | (simp [*]; done), by repeat (first | exact Drawn0.refl _ | apply Drawn0.step)⟩
end Go.Proofs.Ythlmmcmpllgflaa.P
namespace Go.Proofs.Ythlmmcmpllgflaa.P
open Go.RowKit Go.Proofs.YthlmmcmpllgflaaW.PrintWords Go.Proofs.YthlmmcmpllgflaaW.PrintLast Go.Proofs.YthlmmcmpllgflaaW.PrintMore
attribute [local go_sem] max2_int min2_int max_two min_two max_three min_three max_four min_four
set_option linter.unusedVariables false
set_option linter.unusedSimpArgs false
def laws_heldIntSS.l0 : Nat → List (List Int) → Int → Int → Option (Int)
 | 0, _, _, _ => none
 | k + 1, x0, x1, x5 => if x5 < (x0.length : Int) then (if 0 ≤ x5 then ((laws_heldIntS.f k (rd_L2 x0 x5) x1).bind fun t1733 => (if t1733 < 0 then (some (-1)) else (laws_heldIntSS.l0 k x0 t1733 (wrap64 (x5 + 1))))) else (none)) else (some x1)
def laws_heldIntSS.f (k : Nat) (l0 : List (List Int)) (a1 : Int) : Option (Int) := laws_heldIntSS.l0 k l0 a1 0
set_option maxHeartbeats 8000000 in
set_option maxRecDepth 100000 in
theorem laws_heldIntSS.calls (k : Nat) (A0 : Option Addr) (c0 : Nat) (l0 : List (List Int)) (a1 : Int) (r : Int) (w : World) (hr0 : Kd.C (Kd.slice 3 (Kd.int .i64)) w A0 l0.length l0) (hc0 : l0.length ≤ c0) (h : laws_heldIntSS.f k l0 a1 = some r) :
 Calls Try.prog 28 #[.slice A0 l0.length c0, .int .i64 a1] w fun e w' => e = .returned (.int .i64 r) ∧ Drawn0 w w' := by
 have HR0 := Aside0.mk hr0
 have HC0 := Aside0.mk hc0
 clear hr0 hc0
 have H : (laws_heldIntSS.l0 k l0 a1 0) = some r := h
 clear h
 have H' := Aside0.mk H
 clear H
 go_enter Try.func28, Try.ntmps28
 go_wp2
 go_loopg [1, 5] k (fun kq v1 v5 w' => ∃ (x1_1 : Int) (x5_1 : Int), v1 = .int .i64 x1_1 ∧ v5 = .int .i64 x5_1 ∧ Aside0 (laws_heldIntSS.l0 kq l0 x1_1 x5_1 = some r) ∧ Aside0 (kq ≤ k) ∧ Drawn0 w w')
 case atStart => exact ⟨(a1), (0), z3, z3, H', ⟨Nat.le_refl _⟩, by repeat (first | exact Drawn0.refl _ | apply Drawn0.step)⟩
 case round =>
  clear H'
  try clear c2
  try clear p2
  obtain ⟨x1_1, x5_1, rfl, rfl, HA, HK1, ⟨m1, rfl⟩⟩ := hrel
  cases gk with
  | zero => exact absurd HA.out (by simp [laws_heldIntSS.l0])
  | succ k1 =>
   have H := HA.out
   clear HA
   simp only [laws_heldIntSS.l0] at H
   by_cases c3 : x5_1 < (l0.length : Int)
   · rw [if_pos c3] at H
     have c3b0 : decide (x5_1 < (l0.length : Int)) = true := decide_eq_true c3
     clear c3
     by_cases c4 : 0 ≤ x5_1
     · rw [if_pos c4] at H
       have c4b0 : decide (0 ≤ x5_1) = true := decide_eq_true c4
       clear c4
       replace H := Option.bind_eq_some_iff.mp H
       obtain ⟨t1733, A50, H⟩ := H
       replace H : (if t1733 < 0 then (some (-1)) else (laws_heldIntSS.l0 k1 l0 t1733 (wrap64 (x5_1 + 1)))) = some r := H
       have A5 := Aside0.mk A50
       clear A50
       by_cases c6 : t1733 < 0
       · rw [if_pos c6] at H
         have c6b0 : decide (t1733 < 0) = true := decide_eq_true c6
         clear c6
         obtain rfl := Option.some.inj H
         have p1732 : 0 ≤ (x5_1 : Int) := of_decide_eq_true z2
         have q1732 : x5_1 < (l0.length : Int) := of_decide_eq_true z2
         obtain ⟨ad1732, A1732_0, c1732_0, e1732, hx1732_0, hl1732_0, hi1732_0⟩ := at_L2 HR0.out x5_1 p1732 q1732
         cases e1732
         have HR1732_0 := Aside0.mk hi1732_0
         have HC1732_0 := Aside0.mk hl1732_0
         clear hi1732_0 hl1732_0
         replace p1732 := eq_true p1732
         replace q1732 := eq_true q1732
         go_wp2_with (first | ((with_reducible refine gate_callee (f := 83) rfl ?_); refine goesL_ (some 17) rfl rfl Try.func83 (by kernel_rfl) rfl #[.slice A1732_0 (rd_L2 l0 x5_1).length c1732_0, .int .i64 x1_1] rfl z1 ?_; (with_reducible refine (laws_heldIntS.calls k1 _ _ (rd_L2 l0 x5_1) x1_1 t1733 _ ?side1 ?side2 A5.out).mono ?_); (case side1 => repeat (first | exact HR1732_0.out | (with_reducible refine Kd.C_alloc ?_ _) | (with_reducible refine Kd.C_drewN ?_ _) | (with_reducible refine Kd.C_drew ?_))); (case side2 => exact HC1732_0.out); rintro e w' ⟨rfl, ⟨nd, rfl⟩⟩; refine ⟨_, rfl, ?_⟩))
         go_ret
         exact ⟨by first | rfl | (simp; done) | (simp [*]; done), by repeat (first | exact Drawn0.refl _ | apply Drawn0.step)⟩
       · rw [if_neg c6] at H
         have c6b0 : decide (t1733 < 0) = false := decide_eq_false c6
         clear c6
         have H' := Aside0.mk H
         clear H
         have p1732 : 0 ≤ (x5_1 : Int) := of_decide_eq_true z2
         have q1732 : x5_1 < (l0.length : Int) := of_decide_eq_true z2
         obtain ⟨ad1732, A1732_0, c1732_0, e1732, hx1732_0, hl1732_0, hi1732_0⟩ := at_L2 HR0.out x5_1 p1732 q1732
         cases e1732
         have HR1732_0 := Aside0.mk hi1732_0
         have HC1732_0 := Aside0.mk hl1732_0
         clear hi1732_0 hl1732_0
         replace p1732 := eq_true p1732
         replace q1732 := eq_true q1732
         go_wp2_with (first | ((with_reducible refine gate_callee (f := 83) rfl ?_); refine goesL_ (some 17) rfl rfl Try.func83 (by kernel_rfl) rfl #[.slice A1732_0 (rd_L2 l0 x5_1).length c1732_0, .int .i64 x1_1] rfl z1 ?_; (with_reducible refine (laws_heldIntS.calls k1 _ _ (rd_L2 l0 x5_1) x1_1 t1733 _ ?side1 ?side2 A5.out).mono ?_); (case side1 => repeat (first | exact HR1732_0.out | (with_reducible refine Kd.C_alloc ?_ _) | (with_reducible refine Kd.C_drewN ?_ _) | (with_reducible refine Kd.C_drew ?_))); (case side2 => exact HC1732_0.out); rintro e w' ⟨rfl, ⟨nd, rfl⟩⟩; refine ⟨_, rfl, ?_⟩))
         go_roundg k1
         case measure => have := HK1.out; omega
         case rel => exact ⟨(t1733), (wrap64 (x5_1 + 1)), z3, z3, H', ⟨by have := HK1.out; omega⟩, by repeat (first | exact Drawn0.refl _ | apply Drawn0.step)⟩
     · rw [if_neg c4] at H
       exact absurd H (by simp)
   · rw [if_neg c3] at H
     have c3b0 : decide (x5_1 < (l0.length : Int)) = false := decide_eq_false c3
     clear c3
     obtain rfl := Option.some.inj H
     go_wp2
     go_ret
     exact ⟨by first | rfl | (simp; done) | (simp [*]; done), by repeat (first | exact Drawn0.refl _ | apply Drawn0.step)⟩
end Go.Proofs.Ythlmmcmpllgflaa.P
namespace Go.Proofs.Ythlmmcmpllgflaa.P
open Go.RowKit Go.Proofs.YthlmmcmpllgflaaW.PrintWords Go.Proofs.YthlmmcmpllgflaaW.PrintLast Go.Proofs.YthlmmcmpllgflaaW.PrintMore
def seqL (a : Int) (n : Nat) : List Int := (List.range n).map fun i : Nat => a + (i : Int)
theorem seqL_len (a : Int) (n : Nat) : (seqL a n).length = n := by simp [seqL]
theorem seqL_get (a : Int) {n i : Nat} (h : i < n) : (seqL a n).getD i 0 = a + (i : Int) := by
  unfold seqL; rw [List.getD_eq_getElem?_getD, List.getElem?_map, List.getElem?_range h]; rfl
theorem markIntS_l0 (l : List Int) (a : Int) (ha : 0 ≤ a ∧ a ≤ 1000000000000) (hl : l.length ≤ 1000000000) : ∀ d i, i + d = l.length →
    Ev (fun k => laws_markIntS.l0 k (seqL a i ++ l.drop i) (a + (i : Int)) (i : Int)) (a + (l.length : Int), seqL a l.length)
  | 0, i, h => by
    refine Ev.step (fun k => laws_markIntS.l0.eq_2 ..) ?_
    have hi : i = l.length := by omega
    subst hi
    refine Ev.neg (by simp [seqL_len]) ((Ev.now _).to (by simp))
  | d + 1, i, h => by
    refine Ev.step (fun k => laws_markIntS.l0.eq_2 ..) ?_
    refine Ev.pos (by simp [seqL_len]; omega) (Ev.pos (by omega) ?_)
    have ih := markIntS_l0 l a ha hl d (i + 1) (by omega)
    rw [Int.toNat_natCast, wrS (by omega), wr (by omega) (by omega)]
    have e : (seqL a i ++ l.drop i).set i (a + (i : Int)) = seqL a (i + 1) ++ l.drop (i + 1) := by
      rw [List.set_append_right _ _ (by rw [seqL_len]; exact Nat.le_refl _), seqL_len, Nat.sub_self, drop_cons l 0 (by omega), List.set_cons_zero]
      unfold seqL; rw [List.range_succ, List.map_append, List.append_assoc]; rfl
    rw [e, show a + (i : Int) + 1 = a + ((i + 1 : Nat) : Int) by omega]; exact ih
theorem markIntS_ev (l : List Int) (a : Int) (ha : 0 ≤ a ∧ a ≤ 1000000000000) (hl : l.length ≤ 1000000000) : Ev (fun k => laws_markIntS.f k l a) (a + (l.length : Int), seqL a l.length) := by
  unfold laws_markIntS.f
  exact (markIntS_l0 l a ha hl l.length 0 (by omega)).to rfl |> (fun h => by simpa [seqL] using h)
theorem markChain_ev (a b c : List Int) (ha : a.length ≤ 1048576) (hb : b.length ≤ 1048576) (hc : c.length ≤ 1048576) :
    ∃ x, Ev (fun k => laws_markChain.f k a b c 1) x ∧ 0 ≤ x.1 := by
  unfold laws_markChain.f
  refine ⟨_, Ev.bind (markIntS_ev a 1 (by omega) (by omega)) (Ev.bind (markIntS_ev b _ (by dsimp only; omega) (by omega)) (Ev.bind (markIntS_ev c _ (by dsimp only; omega) (by omega)) (Ev.now _))), ?_⟩
  dsimp only; omega
theorem heldIntS_l0 (a : Int) (n : Nat) (ha : 0 ≤ a ∧ a ≤ 1000000000000) (hl : n ≤ 1000000000) : ∀ d i, i + d = n →
    Ev (fun k => laws_heldIntS.l0 k (seqL a n) (a + (i : Int)) (i : Int)) (a + (n : Int))
  | 0, i, h => by
    refine Ev.step (fun k => laws_heldIntS.l0.eq_2 ..) ?_
    exact Ev.neg (by rw [seqL_len]; omega) ((Ev.now _).to (by rw [show i = n by omega]))
  | d + 1, i, h => by
    refine Ev.step (fun k => laws_heldIntS.l0.eq_2 ..) ?_
    have ih := heldIntS_l0 a n ha hl d (i + 1) (by omega)
    refine Ev.pos (by rw [seqL_len]; omega) (Ev.pos (by omega) ?_)
    rw [rd_nat, seqL_get a (by omega), wrS (by omega), wr (by omega) (by omega)]
    rw [show a + ((i + 1 : Nat) : Int) = a + (i : Int) + 1 by omega] at ih
    exact Ev.pos rfl ih
theorem heldIntS_ev (a : Int) (n : Nat) (ha : 0 ≤ a ∧ a ≤ 1000000000000) (hl : n ≤ 1000000000) : Ev (fun k => laws_heldIntS.f k (seqL a n) a) (a + (n : Int)) := by
  unfold laws_heldIntS.f
  have := heldIntS_l0 a n ha hl n 0 (by omega)
  simpa using this
def marked : List (List Int) → Int → List (List Int)
  | [], _ => []
  | r :: rs, a => seqL a r.length :: marked rs (a + (r.length : Int))
def mtot : List (List Int) → Int
  | [] => 0
  | r :: rs => (r.length : Int) + mtot rs
theorem mtot_bound : ∀ (rs : List (List Int)), (∀ r ∈ rs, r.length ≤ 1000) → 0 ≤ mtot rs ∧ mtot rs ≤ 1000 * (rs.length : Int)
  | [], _ => by simp [mtot]
  | r :: rs, h => by
    have h1 := mtot_bound rs (fun x hx => h x (by simp [hx])); have h2 := h r (by simp)
    simp only [mtot, List.length_cons]; omega
theorem rdL_app (D : List (List Int)) (r : List Int) (R : List (List Int)) : rd_L2 (D ++ r :: R) ((D.length : Nat) : Int) = r := by
  rw [rdL_nat]; simp [List.getD_eq_getElem?_getD]
theorem markIntSS_l0 (R : List (List Int)) : ∀ (D : List (List Int)) (a : Int), (∀ r ∈ R, r.length ≤ 1000) → R.length ≤ 1000 → D.length + R.length ≤ 1000 → 0 ≤ a → a ≤ 100000000 - 1000 * (R.length : Int) →
    Ev (fun k => laws_markIntSS.l0 k (D ++ R) a (D.length : Int)) (a + mtot R, D ++ marked R a) := by
  induction R with
  | nil =>
    intro D a _ _ _ _ _
    refine Ev.step (fun k => laws_markIntSS.l0.eq_2 ..) ?_
    exact Ev.neg (by simp) ((Ev.now _).to (by simp [mtot, marked]))
  | cons r R ih0 =>
    intro D a h h1 h2 h3 h4
    have hr := h r (by simp)
    simp only [List.length_cons] at h1 h2 h4
    have ih := ih0 (D ++ [seqL a r.length]) (a + (r.length : Int)) (fun x hx => h x (by simp [hx])) (by omega) z40 (by omega) (by omega)
    refine Ev.step (fun k => laws_markIntSS.l0.eq_2 ..) ?_
    refine Ev.pos z40 (Ev.pos (by omega) ?_)
    rw [rdL_app]
    refine Ev.bind (markIntS_ev r a (by omega) (by omega)) ?_
    dsimp only
    rw [Int.toNat_natCast, List.set_append_right _ _ (Nat.le_refl _), Nat.sub_self, List.set_cons_zero, wrS (by omega)]
    rw [List.length_append, List.append_assoc] at ih
    refine ih.to ?_
    simp only [mtot, marked, List.append_assoc, List.singleton_append]
    rw [Int.add_assoc]
theorem markIntSS_ev (R : List (List Int)) (h : ∀ r ∈ R, r.length ≤ 1000) (h1 : R.length ≤ 1000) : Ev (fun k => laws_markIntSS.f k R 1) (1 + mtot R, marked R 1) := by
  unfold laws_markIntSS.f
  exact markIntSS_l0 R [] 1 h h1 (by simpa using h1) (by omega) (by omega)
theorem heldIntSS_l0 (R : List (List Int)) : ∀ (D : List (List Int)) (a : Int), (∀ r ∈ R, r.length ≤ 1000) → R.length ≤ 1000 → D.length + R.length ≤ 1000 → 0 ≤ a → a ≤ 100000000 - 1000 * (R.length : Int) →
    Ev (fun k => laws_heldIntSS.l0 k (D ++ marked R a) a (D.length : Int)) (a + mtot R) := by
  induction R with
  | nil =>
    intro D a _ _ _ _ _
    refine Ev.step (fun k => laws_heldIntSS.l0.eq_2 ..) ?_
    exact Ev.neg (by simp [marked]) ((Ev.now _).to (by simp [mtot]))
  | cons r R ih0 =>
    intro D a h h1 h2 h3 h4
    have hr := h r (by simp)
    simp only [List.length_cons] at h1 h2 h4
    have ih := ih0 (D ++ [seqL a r.length]) (a + (r.length : Int)) (fun x hx => h x (by simp [hx])) (by omega) z40 (by omega) (by omega)
    refine Ev.step (fun k => laws_heldIntSS.l0.eq_2 ..) ?_
    simp only [marked]
    refine Ev.pos z40 (Ev.pos (by omega) ?_)
    rw [rdL_app]
    refine Ev.bind (heldIntS_ev a r.length (by omega) (by omega)) (Ev.neg (by omega) ?_)
    rw [wrS (by omega)]
    rw [List.length_append, List.append_assoc] at ih
    refine ih.to ?_
    simp only [mtot]; omega
theorem heldIntSS_ev (R : List (List Int)) (h : ∀ r ∈ R, r.length ≤ 1000) (h1 : R.length ≤ 1000) : Ev (fun k => laws_heldIntSS.f k (marked R 1) 1) (1 + mtot R) := by
  unfold laws_heldIntSS.f
  exact heldIntSS_l0 R [] 1 h h1 (by simpa using h1) (by omega) (by omega)
theorem eqIntSS_l0 (R : List (List Int)) (h : ∀ r ∈ R, r.length ≤ 1000) (h1 : R.length ≤ 1000) : ∀ d i, i + d = R.length → Ev (fun k => laws_eqIntSS.l0 k R R (i : Int)) true
  | 0, i, hi => by
    refine Ev.step (fun k => laws_eqIntSS.l0.eq_2 ..) ?_
    exact Ev.neg (by omega) (Ev.now _)
  | d + 1, i, hi => by
    refine Ev.step (fun k => laws_eqIntSS.l0.eq_2 ..) ?_
    have hm : R.getD i [] ∈ R := by rw [List.getD_eq_getElem?_getD, List.getElem?_eq_getElem (by omega)]; simp
    refine Ev.pos (by omega) (Ev.pos (by omega) (Ev.pos (by omega) ?_))
    rw [rdL_nat]
    have hr := h _ hm
    refine Ev.bind ((eqIntS_ev (R.getD i []) (R.getD i []) (by omega)).to (by simp)) (Ev.pos rfl ?_)
    rw [wrS (by omega)]; exact eqIntSS_l0 R h h1 d (i + 1) (by omega)
theorem eqIntSS_self (R : List (List Int)) (h : ∀ r ∈ R, r.length ≤ 1000) (h1 : R.length ≤ 1000) : Ev (fun k => laws_eqIntSS.f k R R) true := by
  unfold laws_eqIntSS.f
  exact Ev.pos rfl (eqIntSS_l0 R h h1 R.length 0 (by omega))
end Go.Proofs.Ythlmmcmpllgflaa.P
