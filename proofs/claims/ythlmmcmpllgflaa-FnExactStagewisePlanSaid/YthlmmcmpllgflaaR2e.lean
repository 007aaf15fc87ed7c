/- The law FnExactStagewisePlan: for every chain the program and the reference make the same plan stage by stage, which leaves its arguments as they are and shares no memory; no condition. -/
import Derived.Test.YthlmmcmpllgflaaR2d
namespace Go.Proofs.Ythlmmcmpllgflaa.P
open Go.RowKit Go.Proofs.YthlmmcmpllgflaaW.PrintWords Go.Proofs.YthlmmcmpllgflaaW.PrintLast Go.Proofs.YthlmmcmpllgflaaW.PrintMore
attribute [local go_sem] max2_int min2_int max_two min_two max_three min_three max_four min_four
set_option linter.unusedVariables false
set_option linter.unusedSimpArgs false
mutual
def impl_Case_best.l0 : Nat → List Int → Int → Int → Int → List Int → List Int → List Int → List Int → Option (List Int × Int)
 | 0, _, _, _, _, _, _, _, _ => none
 | k + 1, x4, x5, x16, x17, x1065000, x1065001, x1065002, x1065003 => if x17 < x16 then (impl_Case_best.l1 k x4 x5 x17 (([] : List Int)) x16 x17 (x1065000.length : Int) 0 x1065000 x1065001 x1065002 x1065003) else (some (x4, x5))
def impl_Case_best.l1 : Nat → List Int → Int → Int → List Int → Int → Int → Int → Int → List Int → List Int → List Int → List Int → Option (List Int × Int)
 | 0, _, _, _, _, _, _, _, _, _, _, _, _ => none
 | k + 1, x4, x5, x6, x7, x16, x17, x23, x24, x1065000, x1065001, x1065002, x1065003 => if x24 < x23 then (if 0 ≤ x24 then (if (Go.bits .and .i64 (shr .i64 x6 x24) 1) = 1 then (if x7.length < 17592186044416 then (impl_Case_best.l1 k x4 x5 x6 (x7 ++ [x24]) x16 x17 x23 (wrap64 (x24 + 1)) x1065000 x1065001 x1065002 x1065003) else (none)) else (impl_Case_best.l1 k x4 x5 x6 x7 x16 x17 x23 (wrap64 (x24 + 1)) x1065000 x1065001 x1065002 x1065003)) else (none)) else ((impl_Case_planFrom.f k x1065000 x1065001 x1065002 x1065003 x7).bind fun bt1071 => (if bt1071.2 = true then ((impl_Case_cost.f k x1065000 x1065001 x1065002 x1065003 bt1071.1).bind fun t1075 => (if (x7.length : Int) < (x4.length : Int) then (impl_Case_best.j2 k x4 x5 x7 t1075 true x16 x17 x1065000 x1065001 x1065002 x1065003) else (if (x7.length : Int) = (x4.length : Int) then ((slices_Compare_int_int.f k x7 x4).bind fun t1076 => (impl_Case_best.j2 k x4 x5 x7 t1075 (decide (t1076 < 0)) x16 x17 x1065000 x1065001 x1065002 x1065003)) else (impl_Case_best.j2 k x4 x5 x7 t1075 false x16 x17 x1065000 x1065001 x1065002 x1065003)))) else (impl_Case_best.l0 k x4 x5 x16 (wrap64 (x17 + 1)) x1065000 x1065001 x1065002 x1065003)))
def impl_Case_best.j2 : Nat → List Int → Int → List Int → Int → Bool → Int → Int → List Int → List Int → List Int → List Int → Option (List Int × Int)
 | 0, _, _, _, _, _, _, _, _, _, _, _ => none
 | k + 1, x4, x5, x7, x11, x12, x16, x17, x1065000, x1065001, x1065002, x1065003 => if x5 < 0 then (impl_Case_best.j3 k x4 x5 x7 x11 x16 x17 true x1065000 x1065001 x1065002 x1065003) else (if x11 < x5 then (impl_Case_best.j3 k x4 x5 x7 x11 x16 x17 true x1065000 x1065001 x1065002 x1065003) else (if x11 = x5 then (impl_Case_best.j3 k x4 x5 x7 x11 x16 x17 x12 x1065000 x1065001 x1065002 x1065003) else (impl_Case_best.j3 k x4 x5 x7 x11 x16 x17 false x1065000 x1065001 x1065002 x1065003)))
def impl_Case_best.j3 : Nat → List Int → Int → List Int → Int → Int → Int → Bool → List Int → List Int → List Int → List Int → Option (List Int × Int)
 | 0, _, _, _, _, _, _, _, _, _, _, _ => none
 | k + 1, x4, x5, x7, x11, x16, x17, x80, x1065000, x1065001, x1065002, x1065003 => if x80 = true then (impl_Case_best.l0 k x7 x11 x16 (wrap64 (x17 + 1)) x1065000 x1065001 x1065002 x1065003) else (impl_Case_best.l0 k x4 x5 x16 (wrap64 (x17 + 1)) x1065000 x1065001 x1065002 x1065003)
end
def impl_Case_best.f (k : Nat) (l0_0 : List Int) (l0_1 : List Int) (l0_2 : List Int) (l0_3 : List Int) : Option (List Int × Int) := impl_Case_best.l0 k ([] : List Int) (-1) (shl .i64 1 (l0_0.length : Int)) 0 l0_0 l0_1 l0_2 l0_3
set_option maxHeartbeats 8000000 in
set_option maxRecDepth 100000 in
theorem impl_Case_best.calls (k : Nat) (A0_0 : Option Addr) (c0_0 : Nat) (l0_0 : List Int) (A0_1 : Option Addr) (c0_1 : Nat) (l0_1 : List Int) (A0_2 : Option Addr) (c0_2 : Nat) (l0_2 : List Int) (A0_3 : Option Addr) (c0_3 : Nat) (l0_3 : List Int) (r1 : List Int) (r2 : Int) (w : World) (hr0_0 : Kd.C (Kd.int .i64) w A0_0 l0_0.length l0_0) (hc0_0 : l0_0.length ≤ c0_0) (hr0_1 : Kd.C (Kd.int .i64) w A0_1 l0_1.length l0_1) (hc0_1 : l0_1.length ≤ c0_1) (hr0_2 : Kd.C (Kd.int .i64) w A0_2 l0_2.length l0_2) (hc0_2 : l0_2.length ≤ c0_2) (hr0_3 : Kd.C (Kd.int .i64) w A0_3 l0_3.length l0_3) (hc0_3 : l0_3.length ≤ c0_3) (h : impl_Case_best.f k l0_0 l0_1 l0_2 l0_3 = some (r1, r2)) :
 Calls Try.prog 70 #[.agg #[.slice A0_0 l0_0.length c0_0, .slice A0_1 l0_1.length c0_1, .slice A0_2 l0_2.length c0_2, .slice A0_3 l0_3.length c0_3]] w fun e w' => ∃ v0_ : Value, e = .returned (.tuple #[v0_, .int .i64 r2]) ∧ Kd.R (Kd.int .i64) 3 w' w.heap.size (fun _ => True) v0_ r1 ∧ Below w.heap.size w w' := by
 have hu49 := Try.underlying49
 have HR0_0 := Aside0.mk hr0_0
 have HC0_0 := Aside0.mk hc0_0
 clear hr0_0 hc0_0
 have HR0_1 := Aside0.mk hr0_1
 have HC0_1 := Aside0.mk hc0_1
 clear hr0_1 hc0_1
 have HR0_2 := Aside0.mk hr0_2
 have HC0_2 := Aside0.mk hc0_2
 clear hr0_2 hc0_2
 have HR0_3 := Aside0.mk hr0_3
 have HC0_3 := Aside0.mk hc0_3
 clear hr0_3 hc0_3
 have HB := Aside0.mk (Below.refl w.heap.size w)
 have H : (impl_Case_best.l0 k ([] : List Int) (-1) (shl .i64 1 (l0_0.length : Int)) 0 l0_0 l0_1 l0_2 l0_3) = some (r1, r2) := h
 clear h
 obtain ⟨ji2, hji2⟩ : ∃ j_ : Int, (shl .i64 1 (l0_0.length : Int)) = j_ := ⟨_, rfl⟩
 replace H : (impl_Case_best.l0 k ([] : List Int) (-1) ji2 0 l0_0 l0_1 l0_2 l0_3) = some (r1, r2) := by first | (rw [hji2] at H; exact H) | (simp only [hji2] at H ⊢; exact H)
 have hji2_ : (IntKind.i64.wrap (1 * 2 ^ min (l0_0.length : Int).toNat 64)) = ji2 := hji2
 have hji2z : (l0_0.length : Int) ≤ 64 → (IntKind.i64.wrap (1 * 2 ^ (l0_0.length : Int).toNat)) = ji2 := shl_small hji2
 have hji2p : (IntKind.i64.wrap (1 * 2 ^ min l0_0.length 64)) = ji2 := hji2_
 have hji2q : (l0_0.length : Int) ≤ 64 → (IntKind.i64.wrap (1 * 2 ^ l0_0.length)) = ji2 := hji2z
 have hji2r : (IntKind.i64.wrap (2 ^ min l0_0.length 64)) = ji2 := by have h_ := hji2p; rw [Int.one_mul] at h_; exact h_
 have hji2s : (l0_0.length : Int) ≤ 64 → (IntKind.i64.wrap (2 ^ l0_0.length)) = ji2 := fun hle_ => by have h_ := hji2q hle_; rw [Int.one_mul] at h_; exact h_
 have hji2u : (IntKind.i64.wrap (2 ^ min (l0_0.length : Int).toNat 64)) = ji2 := by have h_ := hji2_; rw [Int.one_mul] at h_; exact h_
 have hji2v : (l0_0.length : Int) ≤ 64 → (IntKind.i64.wrap (2 ^ (l0_0.length : Int).toNat)) = ji2 := fun hle_ => by have h_ := hji2z hle_; rw [Int.one_mul] at h_; exact h_
 have hji2y : (wrap64 (1 * 2 ^ min (l0_0.length : Int).toNat 64)) = ji2 := (i64_w _).symm.trans hji2_
 have hji2x : (l0_0.length : Int) ≤ 64 → (wrap64 (1 * 2 ^ (l0_0.length : Int).toNat)) = ji2 := fun h_ => (i64_w _).symm.trans (hji2z h_)
 have H' := Aside0.mk H
 clear H
 go_enter Try.func70, Try.ntmps70
 go_wp2_with (first | ((with_reducible refine gate_dst (N := 1) rfl ?_); (try (refine gate_guard (by rfl) ?_; dsimp only)); refine box_event ?hg (N := 1) ?hd (cs := #[.slice A0_0 l0_0.length c0_0, .slice A0_1 l0_1.length c0_1, .slice A0_2 l0_2.length c0_2, .slice A0_3 l0_3.length c0_3]) (t := 49) ?hr ?_; (case hd => rfl); (case hg => rfl); (case hr => first | (go_simp; done) | (go_simp; rfl)); intro gb1064 hg w3 hbox hb; have n0_ := Aside0.mk (below_step zH0 hb); have n1_ := Aside0.mk (hbox); have n2_ := Aside0.mk ((z6 : w.heap.size ≤ gb1064)); have n3_ := Aside0.mk ((z6 : w.heap.size ≤ gb1064)); clear HB; have HB := n0_; have BK1064 := n1_; have GW1064 := n2_; have GE1064 := n3_; clear n0_ n1_ n2_ n3_; clear hb hbox hg; have hcz4_0 : w3.cell? ⟨gb1064, 0, none⟩ = some (.slice A0_0 l0_0.length c0_0) := (blk_cell BK1064.out 0).trans rfl; have hcz4_1 : w3.cell? ⟨gb1064, 1, none⟩ = some (.slice A0_1 l0_1.length c0_1) := (blk_cell BK1064.out 1).trans rfl; have hcz4_2 : w3.cell? ⟨gb1064, 2, none⟩ = some (.slice A0_2 l0_2.length c0_2) := (blk_cell BK1064.out 2).trans rfl; have hcz4_3 : w3.cell? ⟨gb1064, 3, none⟩ = some (.slice A0_3 l0_3.length c0_3) := (blk_cell BK1064.out 3).trans rfl; have hfz4_0 := blk_frozen BK1064.out 0; have hfz4_1 := blk_frozen BK1064.out 1; have hfz4_2 := blk_frozen BK1064.out 2; have hfz4_3 := blk_frozen BK1064.out 3))
 go_loopg [4, 5, 17] k (fun kq v4 v5 v17 w' => ∃ (x4_1 : List Int) (x5_1 : Int) (x17_1 : Int), v5 = .int .i64 x5_1 ∧ v17 = .int .i64 x17_1 ∧ Aside0 (impl_Case_best.l0 kq x4_1 x5_1 ji2 x17_1 l0_0 l0_1 l0_2 l0_3 = some (r1, r2)) ∧ Aside0 (kq ≤ k) ∧ Aside0 (Kd.R (Kd.int .i64) 3 w' w.heap.size (fun _ => True) v4 x4_1) ∧ Aside0 (w'.heap[gb1064]? = some (.cells #[(.slice A0_0 l0_0.length c0_0), (.slice A0_1 l0_1.length c0_1), (.slice A0_2 l0_2.length c0_2), (.slice A0_3 l0_3.length c0_3)] 49 (0, 0))) ∧ Aside0 (Below w.heap.size w w'))
 case atStart => exact ⟨(([] : List Int)), ((-1)), (0), z3, z3, H', ⟨Nat.le_refl _⟩, ⟨by first | exact Kd.R_nil _ _ _ _ _ | exact Kd.N_nil _ _ _ _ _ | exact Kd.V_nil _ _ _ _ _ | exact Kd.Q_nil _ _ _ _ _ | exact Kd.S_nil _ _ _ _ _⟩, ⟨by (with_reducible repeat (first | refine blk_drewN ?_ _ | refine blk_drew ?_ | refine blk_alloc ?_ _)); exact BK1064.out⟩, ⟨by repeat (first | (with_reducible first | exact HB.out | apply below_alloc | apply pw_below_drewN | apply below_drew1 | refine below_set ?_ GE1064.out) | exact HB.out)⟩⟩
 case round =>
  clear H'
  try clear p2
  try clear hcz4_0
  try clear hcz4_1
  try clear hcz4_2
  try clear hcz4_3
  try clear hfz4_0
  try clear hfz4_1
  try clear hfz4_2
  try clear hfz4_3
  obtain ⟨x4_1, x5_1, x17_1, rfl, rfl, HA, HK1, HO_4, BK1064, HB⟩ := hrel
  cases gk with
  | zero => exact absurd HA.out (by simp [impl_Case_best.l0])
  | succ k1 =>
   have H := HA.out
   clear HA
   simp only [impl_Case_best.l0] at H
   by_cases c5 : x17_1 < ji2
   · rw [if_pos c5] at H
     have c5b0 : decide (x17_1 < ji2) = true := decide_eq_true c5
     clear c5
     obtain ⟨y1065, hy1065⟩ : ∃ y_ : List Int, y_ = (([] : List Int)) := ⟨_, rfl⟩
     replace H : (impl_Case_best.l1 k1 x4_1 x5_1 x17_1 y1065 ji2 x17_1 (l0_0.length : Int) 0 l0_0 l0_1 l0_2 l0_3) = some (r1, r2) := by first | (rw [hy1065]; with_reducible exact H) | (have H2_ := (Option.bind_some _ _).symm.trans H; rw [hy1065]; with_reducible exact H2_) | (have H2_ := (Option.bind_some _ _).symm.trans H; with_reducible exact H2_) | with_reducible exact H | (rw [hy1065]; exact H) | exact H
     have Ny1065 := Aside0.mk hy1065
     clear hy1065
     have H' := Aside0.mk H
     clear H
     go_wp2_with (first | ((with_reducible refine gate_dst (N := 20) rfl ?_); (try (refine gate_guard (by rfl) ?_; dsimp only)); refine Kd.R_lit (Kd.int .i64) _ 3 ?hg (N := 20) ?hd (xs := ([] : List Int)) (inner := []) (ok := fun _ => True) (okp := fun _ => True) ?hr ?hp (fun _ hk => hk) trivial (Below.refl _ _) (Nat.le_refl _) (by simp) ?_; (case hd => rfl); (case hg => rfl); (case hr => first | (go_simp; done) | (go_simp; rfl)); (case hp => exact (Reps.none _ _)); intro v1066 w6 ho7 hb hg_ hnew_; clear hg_ hnew_; (first | rw [← Ny1065.out] at ho7 | (simp only [Int.reduceToNat] at ho7; rw [← Ny1065.out] at ho7)); have n0_ := Aside0.mk (Kd.R_elder' (zR HO_4.out) (Kd.R_base ho7) hb); have n1_ := Aside0.mk (Kd.R_lower (Kd.R_new' ho7 (Kd.R_lt (zR HO_4.out))) (below_size (zH1 GE1064.out))); have n2_ := Aside0.mk (blk_below (g := gb1064) (o := .cells #[.slice A0_0 l0_0.length c0_0, .slice A0_1 l0_1.length c0_1, .slice A0_2 l0_2.length c0_2, .slice A0_3 l0_3.length c0_3] 49 (0, 0)) (zB BK1064.out) hb); have n3_ := Aside0.mk (below_step (zH1 GE1064.out) hb); clear HO_4; clear BK1064; clear HB; have HO_4 := n0_; have HO1067 := n1_; have BK1064 := n2_; have HB := n3_; clear n0_ n1_ n2_ n3_; clear hb ho7; have hcz8_0 : w6.cell? ⟨gb1064, 0, none⟩ = some (.slice A0_0 l0_0.length c0_0) := (blk_cell BK1064.out 0).trans rfl; have hcz8_1 : w6.cell? ⟨gb1064, 1, none⟩ = some (.slice A0_1 l0_1.length c0_1) := (blk_cell BK1064.out 1).trans rfl; have hcz8_2 : w6.cell? ⟨gb1064, 2, none⟩ = some (.slice A0_2 l0_2.length c0_2) := (blk_cell BK1064.out 2).trans rfl; have hcz8_3 : w6.cell? ⟨gb1064, 3, none⟩ = some (.slice A0_3 l0_3.length c0_3) := (blk_cell BK1064.out 3).trans rfl; have hfz8_0 := blk_frozen BK1064.out 0; have hfz8_1 := blk_frozen BK1064.out 1; have hfz8_2 := blk_frozen BK1064.out 2; have hfz8_3 := blk_frozen BK1064.out 3))
     go_loopg [7, 24] k1 (fun kq v7 v24 w' => ∃ (x7_2 : List Int) (x24_2 : Int), v24 = .int .i64 x24_2 ∧ Aside0 (impl_Case_best.l1 kq x4_1 x5_1 x17_1 x7_2 ji2 x17_1 (l0_0.length : Int) x24_2 l0_0 l0_1 l0_2 l0_3 = some (r1, r2)) ∧ Aside0 (kq ≤ k1) ∧ Aside0 (Kd.R (Kd.int .i64) 3 w' w.heap.size (fun k_ => some k_ ≠ (v7 : Value).ownBlock) u4 x4_1) ∧ Aside0 (Kd.R (Kd.int .i64) 3 w' w.heap.size (fun k_ => some k_ ≠ (u4 : Value).ownBlock) v7 x7_2) ∧ Aside0 (w'.heap[gb1064]? = some (.cells #[(.slice A0_0 l0_0.length c0_0), (.slice A0_1 l0_1.length c0_1), (.slice A0_2 l0_2.length c0_2), (.slice A0_3 l0_3.length c0_3)] 49 (0, 0))) ∧ Aside0 (Below w.heap.size w w'))
     case atStart => exact ⟨(y1065), (0), z3, H', ⟨Nat.le_refl _⟩, ⟨by (with_reducible repeat (first | apply Kd.R_alloc | apply Kd.R_drewN | apply Kd.R_drew)); exact Kd.R_mono HO_4.out (fun _ hk => hk.2)⟩, ⟨by (with_reducible repeat (first | apply Kd.R_alloc | apply Kd.R_drewN | apply Kd.R_drew)); exact Kd.R_mono HO1067.out (fun _ hk => hk.2)⟩, ⟨by (with_reducible repeat (first | refine blk_drewN ?_ _ | refine blk_drew ?_ | refine blk_alloc ?_ _)); exact BK1064.out⟩, ⟨by repeat (first | (with_reducible first | exact HB.out | apply below_alloc | apply pw_below_drewN | apply below_drew1 | refine below_set ?_ GE1064.out) | exact HB.out)⟩⟩
     case round =>
      clear H'
      try clear p2
      try clear c5
      try clear c5b0
      try clear p6
      try clear c7
      try clear hcz4_0
      try clear hcz4_1
      try clear hcz4_2
      try clear hcz4_3
      try clear hcz8_0
      try clear hcz8_1
      try clear hcz8_2
      try clear hcz8_3
      try clear hfz4_0
      try clear hfz4_1
      try clear hfz4_2
      try clear hfz4_3
      try clear hfz8_0
      try clear hfz8_1
      try clear hfz8_2
      try clear hfz8_3
      try clear p2
      obtain ⟨x7_2, x24_2, rfl, HA, HK2, HO_4, HO_7, BK1064, HB⟩ := hrel
      cases gk with
      | zero => exact absurd HA.out (by simp [impl_Case_best.l1])
      | succ k2 =>
       have H := HA.out
       clear HA
       simp only [impl_Case_best.l1] at H
       by_cases c9 : x24_2 < (l0_0.length : Int)
       · rw [if_pos c9] at H
         have c9b0 : decide (x24_2 < (l0_0.length : Int)) = true := decide_eq_true c9
         clear c9
         by_cases c10 : 0 ≤ x24_2
         · rw [if_pos c10] at H
           have c10b0 := eq_true c10
           have c10b1 : decide (0 ≤ x24_2) = true := decide_eq_true c10
           clear c10
           obtain ⟨ji11, hji11⟩ : ∃ j_ : Int, (shr .i64 x17_1 x24_2) = j_ := ⟨_, rfl⟩
           replace H : (if (Go.bits .and .i64 (ji11) 1) = 1 then (if x7_2.length < 17592186044416 then (impl_Case_best.l1 k2 x4_1 x5_1 x17_1 (x7_2 ++ [x24_2]) ji2 x17_1 (l0_0.length : Int) (wrap64 (x24_2 + 1)) l0_0 l0_1 l0_2 l0_3) else (none)) else (impl_Case_best.l1 k2 x4_1 x5_1 x17_1 x7_2 ji2 x17_1 (l0_0.length : Int) (wrap64 (x24_2 + 1)) l0_0 l0_1 l0_2 l0_3)) = some (r1, r2) := by first | (rw [hji11] at H; exact H) | (simp only [hji11] at H ⊢; exact H)
           have hji11_ : (x17_1 / 2 ^ min x24_2.toNat 64) = ji11 := hji11
           have hji11z : x24_2 ≤ 64 → (x17_1 / 2 ^ x24_2.toNat) = ji11 := shr_small hji11
           by_cases c12 : (Go.bits .and .i64 (ji11) 1) = 1
           · rw [if_pos c12] at H
             have c12b0 : ((Go.bits .and .i64 (ji11) 1) == 1) = true := beq_iff_eq.mpr c12
             have c12b1 : ((Go.bits .and .i64 (ji11) 1) != 1) = false := bne_eq_false_iff_eq.mpr c12
             clear c12
             by_cases c13 : x7_2.length < 17592186044416
             · rw [if_pos c13] at H
               have LMc13 := Aside0.mk c13
               clear c13
               obtain ⟨y1068, hy1068⟩ : ∃ y_ : List Int, y_ = (x7_2 ++ [x24_2]) := ⟨_, rfl⟩
               replace H : (impl_Case_best.l1 k2 x4_1 x5_1 x17_1 y1068 ji2 x17_1 (l0_0.length : Int) (wrap64 (x24_2 + 1)) l0_0 l0_1 l0_2 l0_3) = some (r1, r2) := by first | (rw [hy1068]; with_reducible exact H) | (have H2_ := (Option.bind_some _ _).symm.trans H; rw [hy1068]; with_reducible exact H2_) | (have H2_ := (Option.bind_some _ _).symm.trans H; with_reducible exact H2_) | with_reducible exact H | (rw [hy1068]; exact H) | exact H
               have Ny1068 := Aside0.mk hy1068
               clear hy1068
               have H' := Aside0.mk H
               clear H
               go_wp2_with (first | ((with_reducible refine gate_builtin (b := .append) (xs := #[.tmp 32, .tmp 34]) rfl ?_); (try (refine gate_guard (by rfl) ?_; dsimp only)); at_builtin; refine Kd.R_append (Kd.int .i64) (w0 := w) w.heap.size rfl (.tmp 32) (.tmp 34) 24 3 (.int .i64 0) 8 rfl Try.underlying24 info3 rfl (by decide) (by omega) u7 x7_2 x24_2 [.int .i64 x24_2] (fun k_ => some k_ ≠ (u4 : Value).ownBlock) (fun _ => False) rfl rfl ?aP (fun _ hk => hk.elim) ?aF ?aO ?aB ?aS ?aL ?_; (case aP => exact rfl); (case aB => exact (zH1 GE1064.out)); (case aF => exact (fun k_ hk => Kd.fresh' (Kd.R_lt (zR HO_4.out)) k_ hk)); (case aO => exact (zR HO_7.out)); (case aS => exact (below_size (zH1 GE1064.out))); (case aL => have := LMc13.out; omega); intro v1069 w14 ho hb hg hat; rw [← Ny1068.out] at ho; have n0_ := Aside0.mk (Kd.R_after (ok := (fun _ => True)) (by (with_reducible repeat (first | apply Kd.R_alloc | apply Kd.R_drewN | apply Kd.R_drew)); exact Kd.R_mono HO_4.out (fun _ hk => ⟨trivial, hk⟩)) hg hat); have n1_ := Aside0.mk (blk_grown (g := gb1064) (o := .cells #[.slice A0_0 l0_0.length c0_0, .slice A0_1 l0_1.length c0_1, .slice A0_2 l0_2.length c0_2, .slice A0_3 l0_3.length c0_3] 49 (0, 0)) (zB BK1064.out) hg (Kd.R_ne HO_7.out BK1064.out (by decide))); have n2_ := Aside0.mk (hb); have n3_ := Aside0.mk (ho); clear HO_4; clear BK1064; clear HB; clear HO_7; have HO_4 := n0_; have BK1064 := n1_; have HB := n2_; have HO1070 := n3_; clear n0_ n1_ n2_ n3_; clear ho hb hg hat))
               go_roundg k2
               case measure => have := HK1.out; have := HK2.out; omega
               case rel => exact ⟨(y1068), (wrap64 (x24_2 + 1)), z3, H', ⟨by have := HK1.out; have := HK2.out; omega⟩, ⟨by (with_reducible repeat (first | apply Kd.R_alloc | apply Kd.R_drewN | apply Kd.R_drew)); exact Kd.R_mono HO_4.out (fun _ hk => hk.2)⟩, ⟨by (with_reducible repeat (first | apply Kd.R_alloc | apply Kd.R_drewN | apply Kd.R_drew)); exact HO1070.out⟩, ⟨by (with_reducible repeat (first | refine blk_drewN ?_ _ | refine blk_drew ?_ | refine blk_alloc ?_ _)); exact BK1064.out⟩, ⟨by repeat (first | (with_reducible first | exact HB.out | apply below_alloc | apply pw_below_drewN | apply below_drew1 | refine below_set ?_ GE1064.out) | exact HB.out)⟩⟩
             · rw [if_neg c13] at H
               exact absurd H (by simp)
           · rw [if_neg c12] at H
             have c12b0 : ((Go.bits .and .i64 (ji11) 1) == 1) = false := beq_eq_false_iff_ne.mpr c12
             have c12b1 : ((Go.bits .and .i64 (ji11) 1) != 1) = true := bne_iff_ne.mpr c12
             have H' := Aside0.mk H
             clear H
             go_wp2
             go_roundg k2
             case measure => have := HK1.out; have := HK2.out; omega
             case rel => exact ⟨(x7_2), (wrap64 (x24_2 + 1)), z3, H', ⟨by have := HK1.out; have := HK2.out; omega⟩, ⟨by (with_reducible repeat (first | apply Kd.R_alloc | apply Kd.R_drewN | apply Kd.R_drew)); exact HO_4.out⟩, ⟨by (with_reducible repeat (first | apply Kd.R_alloc | apply Kd.R_drewN | apply Kd.R_drew)); exact HO_7.out⟩, ⟨by (with_reducible repeat (first | refine blk_drewN ?_ _ | refine blk_drew ?_ | refine blk_alloc ?_ _)); exact BK1064.out⟩, ⟨by repeat (first | (with_reducible first | exact HB.out | apply below_alloc | apply pw_below_drewN | apply below_drew1 | refine below_set ?_ GE1064.out) | exact HB.out)⟩⟩
         · rw [if_neg c10] at H
           exact absurd H (by simp)
       · rw [if_neg c9] at H
         have c9b0 : decide (x24_2 < (l0_0.length : Int)) = false := decide_eq_false c9
         clear c9
         replace H := Option.bind_eq_some_iff.mp H
         obtain ⟨⟨t1071, t1074⟩, A150, H⟩ := H
         replace H : (if t1074 = true then ((impl_Case_cost.f k2 l0_0 l0_1 l0_2 l0_3 t1071).bind fun t1075 => (if (x7_2.length : Int) < (x4_1.length : Int) then (impl_Case_best.j2 k2 x4_1 x5_1 x7_2 t1075 true ji2 x17_1 l0_0 l0_1 l0_2 l0_3) else (if (x7_2.length : Int) = (x4_1.length : Int) then ((slices_Compare_int_int.f k2 x7_2 x4_1).bind fun t1076 => (impl_Case_best.j2 k2 x4_1 x5_1 x7_2 t1075 (decide (t1076 < 0)) ji2 x17_1 l0_0 l0_1 l0_2 l0_3)) else (impl_Case_best.j2 k2 x4_1 x5_1 x7_2 t1075 false ji2 x17_1 l0_0 l0_1 l0_2 l0_3)))) else (impl_Case_best.l0 k2 x4_1 x5_1 ji2 (wrap64 (x17_1 + 1)) l0_0 l0_1 l0_2 l0_3)) = some (r1, r2) := H
         have A15 := Aside0.mk A150
         clear A150
         by_cases c16 : t1074 = true
         · subst c16
           have H1 : ((impl_Case_cost.f k2 l0_0 l0_1 l0_2 l0_3 t1071).bind fun t1075 => (if (x7_2.length : Int) < (x4_1.length : Int) then (impl_Case_best.j2 k2 x4_1 x5_1 x7_2 t1075 true ji2 x17_1 l0_0 l0_1 l0_2 l0_3) else (if (x7_2.length : Int) = (x4_1.length : Int) then ((slices_Compare_int_int.f k2 x7_2 x4_1).bind fun t1076 => (impl_Case_best.j2 k2 x4_1 x5_1 x7_2 t1075 (decide (t1076 < 0)) ji2 x17_1 l0_0 l0_1 l0_2 l0_3)) else (impl_Case_best.j2 k2 x4_1 x5_1 x7_2 t1075 false ji2 x17_1 l0_0 l0_1 l0_2 l0_3)))) = some (r1, r2) := by rw [if_pos rfl] at H; exact H
           clear H
           have H := H1
           clear H1
           replace H := Option.bind_eq_some_iff.mp H
           obtain ⟨t1075, A170, H⟩ := H
           replace H : (if (x7_2.length : Int) < (x4_1.length : Int) then (impl_Case_best.j2 k2 x4_1 x5_1 x7_2 t1075 true ji2 x17_1 l0_0 l0_1 l0_2 l0_3) else (if (x7_2.length : Int) = (x4_1.length : Int) then ((slices_Compare_int_int.f k2 x7_2 x4_1).bind fun t1076 => (impl_Case_best.j2 k2 x4_1 x5_1 x7_2 t1075 (decide (t1076 < 0)) ji2 x17_1 l0_0 l0_1 l0_2 l0_3)) else (impl_Case_best.j2 k2 x4_1 x5_1 x7_2 t1075 false ji2 x17_1 l0_0 l0_1 l0_2 l0_3))) = some (r1, r2) := H
           have A17 := Aside0.mk A170
           clear A170
           have HC18 := Aside0.mk H
           clear H
           have hcz19_0 : wr.cell? ⟨gb1064, 0, none⟩ = some (.slice A0_0 l0_0.length c0_0) := (blk_cell BK1064.out 0).trans rfl
           have hcz19_1 : wr.cell? ⟨gb1064, 1, none⟩ = some (.slice A0_1 l0_1.length c0_1) := (blk_cell BK1064.out 1).trans rfl
           have hcz19_2 : wr.cell? ⟨gb1064, 2, none⟩ = some (.slice A0_2 l0_2.length c0_2) := (blk_cell BK1064.out 2).trans rfl
           have hcz19_3 : wr.cell? ⟨gb1064, 3, none⟩ = some (.slice A0_3 l0_3.length c0_3) := (blk_cell BK1064.out 3).trans rfl
           have hfz19_0 := blk_frozen BK1064.out 0
           have hfz19_1 := blk_frozen BK1064.out 1
           have hfz19_2 := blk_frozen BK1064.out 2
           have hfz19_3 := blk_frozen BK1064.out 3
           obtain ⟨Ao20, co20, eo20⟩ := Kd.R_slice HO_7.out
           subst eo20
           go_upto_region 15 with (first | ((with_reducible refine gate_callee (f := 71) rfl ?_); refine goesL_ (some 40) rfl rfl Try.func71 (by kernel_rfl) rfl #[.agg #[.slice A0_0 l0_0.length c0_0, .slice A0_1 l0_1.length c0_1, .slice A0_2 l0_2.length c0_2, .slice A0_3 l0_3.length c0_3], .slice Ao20 x7_2.length co20] rfl z1 ?_; (with_reducible refine (impl_Case_planFrom.calls k2 _ _ l0_0 _ _ l0_1 _ _ l0_2 _ _ l0_3 _ _ x7_2 t1071 true _ ?side1 ?side2 ?side3 ?side4 ?side5 ?side6 ?side7 ?side8 ?side9 ?side10 A15.out).mono ?_); (case side1 => exact zC (Kd.C_below HR0_0.out HB.out)); (case side2 => exact HC0_0.out); (case side3 => exact zC (Kd.C_below HR0_1.out HB.out)); (case side4 => exact HC0_1.out); (case side5 => exact zC (Kd.C_below HR0_2.out HB.out)); (case side6 => exact HC0_2.out); (case side7 => exact zC (Kd.C_below HR0_3.out HB.out)); (case side8 => exact HC0_3.out); (case side9 => exact zC (Kd.R_reads' HO_7.out).2.2); (case side10 => exact (Kd.R_reads' HO_7.out).2.1); rintro e w21 ⟨v1072, rfl, ho0, hb⟩; refine ⟨_, rfl, ?_⟩; have n0_ := Aside0.mk (Kd.R_elder' (zR HO_4.out) (Kd.R_base ho0) hb); have n1_ := Aside0.mk (Kd.R_elder' (zR HO_7.out) (Kd.R_base ho0) hb); have n2_ := Aside0.mk (Kd.R_lower (Kd.R_new' (Kd.R_new' ho0 (Kd.R_lt (zR HO_4.out))) (Kd.R_lt (zR HO_7.out))) (below_size (zH1 GE1064.out))); have n3_ := Aside0.mk (blk_below (g := gb1064) (o := .cells #[.slice A0_0 l0_0.length c0_0, .slice A0_1 l0_1.length c0_1, .slice A0_2 l0_2.length c0_2, .slice A0_3 l0_3.length c0_3] 49 (0, 0)) (zB BK1064.out) hb); have n4_ := Aside0.mk (below_step (zH1 GE1064.out) hb); clear HO_4; clear HO_7; clear BK1064; clear HB; have HO_4 := n0_; have HO_7 := n1_; have HO1073 := n2_; have BK1064 := n3_; have HB := n4_; clear n0_ n1_ n2_ n3_ n4_; (try clear hb); (try clear hb2); (try clear hk); (try clear hi); (try clear ho0); have hcz22_0 : w21.cell? ⟨gb1064, 0, none⟩ = some (.slice A0_0 l0_0.length c0_0) := (blk_cell BK1064.out 0).trans rfl; have hcz22_1 : w21.cell? ⟨gb1064, 1, none⟩ = some (.slice A0_1 l0_1.length c0_1) := (blk_cell BK1064.out 1).trans rfl; have hcz22_2 : w21.cell? ⟨gb1064, 2, none⟩ = some (.slice A0_2 l0_2.length c0_2) := (blk_cell BK1064.out 2).trans rfl; have hcz22_3 : w21.cell? ⟨gb1064, 3, none⟩ = some (.slice A0_3 l0_3.length c0_3) := (blk_cell BK1064.out 3).trans rfl; have hfz22_0 := blk_frozen BK1064.out 0; have hfz22_1 := blk_frozen BK1064.out 1; have hfz22_2 := blk_frozen BK1064.out 2; have hfz22_3 := blk_frozen BK1064.out 3; obtain ⟨Ao23, co23, eo23⟩ := Kd.R_slice HO1073.out; subst eo23) | ((with_reducible refine gate_callee (f := 93) rfl ?_); refine goesL_ (some 47) rfl rfl Try.func93 (by kernel_rfl) rfl #[.agg #[.slice A0_0 l0_0.length c0_0, .slice A0_1 l0_1.length c0_1, .slice A0_2 l0_2.length c0_2, .slice A0_3 l0_3.length c0_3], .slice Ao23 t1071.length co23] rfl z1 ?_; (with_reducible refine (impl_Case_cost.calls k2 _ _ l0_0 _ _ l0_1 _ _ l0_2 _ _ l0_3 _ _ t1071 t1075 _ ?side1 ?side2 ?side3 ?side4 ?side5 ?side6 ?side7 ?side8 ?side9 ?side10 A17.out).mono ?_); (case side1 => exact zC (Kd.C_below HR0_0.out HB.out)); (case side2 => exact HC0_0.out); (case side3 => exact zC (Kd.C_below HR0_1.out HB.out)); (case side4 => exact HC0_1.out); (case side5 => exact zC (Kd.C_below HR0_2.out HB.out)); (case side6 => exact HC0_2.out); (case side7 => exact zC (Kd.C_below HR0_3.out HB.out)); (case side8 => exact HC0_3.out); (case side9 => exact zC (Kd.R_reads' HO1073.out).2.2); (case side10 => exact (Kd.R_reads' HO1073.out).2.1); rintro e w24 ⟨rfl, hb⟩; refine ⟨_, rfl, ?_⟩; have n0_ := Aside0.mk (Kd.R_below (zR HO_4.out) hb); have n1_ := Aside0.mk (Kd.R_below (zR HO_7.out) hb); have n2_ := Aside0.mk (Kd.R_below (zR HO1073.out) hb); have n3_ := Aside0.mk (blk_below (g := gb1064) (o := .cells #[.slice A0_0 l0_0.length c0_0, .slice A0_1 l0_1.length c0_1, .slice A0_2 l0_2.length c0_2, .slice A0_3 l0_3.length c0_3] 49 (0, 0)) (zB BK1064.out) hb); have n4_ := Aside0.mk (below_step (zH1 GE1064.out) hb); clear HO_4; clear HO_7; clear HO1073; clear BK1064; clear HB; have HO_4 := n0_; have HO_7 := n1_; have HO1073 := n2_; have BK1064 := n3_; have HB := n4_; clear n0_ n1_ n2_ n3_ n4_; (try clear hb); (try clear hb2); (try clear hk); (try clear hi)))
           (try simp only [Act.put, List.setIfInBounds_toArray, List.set_cons_zero, List.set_cons_succ])
           go_cut [12] (fun v12 wc => ∃ (kq : Nat) (x12_17 : Bool), v12 = .bool x12_17 ∧ Aside0 (impl_Case_best.j2 kq x4_1 x5_1 x7_2 t1075 x12_17 ji2 x17_1 l0_0 l0_1 l0_2 l0_3 = some (r1, r2)) ∧ Aside0 (kq ≤ k2) ∧ Aside0 (Kd.R (Kd.int .i64) 3 wc w.heap.size (fun k_ => some k_ ≠ ((.slice Ao20 x7_2.length co20) : Value).ownBlock) u4 x4_1) ∧ Aside0 (Kd.R (Kd.int .i64) 3 wc w.heap.size (fun k_ => some k_ ≠ (u4 : Value).ownBlock) (.slice Ao20 x7_2.length co20) x7_2) ∧ Aside0 (wc.heap[gb1064]? = some (.cells #[(.slice A0_0 l0_0.length c0_0), (.slice A0_1 l0_1.length c0_1), (.slice A0_2 l0_2.length c0_2), (.slice A0_3 l0_3.length c0_3)] 49 (0, 0))) ∧ Aside0 (Below w.heap.size w wc))
           case first =>
            have H := HC18.out
            clear HC18
            by_cases c25 : (x7_2.length : Int) < (x4_1.length : Int)
            · rw [if_pos c25] at H
              have c25b0 : decide ((x7_2.length : Int) < (x4_1.length : Int)) = true := decide_eq_true c25
              have c25b1 : decide (x7_2.length < x4_1.length) = true := decide_eq_true (Int.ofNat_lt.mp c25)
              clear c25
              (first | rw [c25b0] | (simp only [i64_w, i32_w]; rw [c25b0]) | skip)
              have H' := Aside0.mk H
              clear H
              obtain ⟨Ao26, co26, eo26⟩ := Kd.R_slice HO_4.out
              subst eo26
              go_wp2
              go_meet
              case rel => exact ⟨_, (true), z3, H', ⟨by have := HK1.out; have := HK2.out; first | omega | exact Nat.le_refl _⟩, ⟨by (with_reducible repeat (first | apply Kd.R_alloc | apply Kd.R_drewN | apply Kd.R_drew)); exact Kd.R_mono HO_4.out (fun _ hk => hk.1)⟩, ⟨by (with_reducible repeat (first | apply Kd.R_alloc | apply Kd.R_drewN | apply Kd.R_drew)); exact Kd.R_mono HO_7.out (fun _ hk => hk.1)⟩, ⟨by (with_reducible repeat (first | refine blk_drewN ?_ _ | refine blk_drew ?_ | refine blk_alloc ?_ _)); exact BK1064.out⟩, ⟨by repeat (first | (with_reducible first | exact HB.out | apply below_alloc | apply pw_below_drewN | apply below_drew1 | refine below_set ?_ GE1064.out) | exact HB.out)⟩⟩
            · rw [if_neg c25] at H
              have c25b0 : decide ((x7_2.length : Int) < (x4_1.length : Int)) = false := decide_eq_false c25
              have c25b1 : decide (x7_2.length < x4_1.length) = false := decide_eq_false (fun h => c25 (Int.ofNat_lt.mpr h))
              clear c25
              (first | rw [c25b0] | (simp only [i64_w, i32_w]; rw [c25b0]) | skip)
              by_cases c27 : (x7_2.length : Int) = (x4_1.length : Int)
              · rw [if_pos c27] at H
                have c27b0 : ((x7_2.length : Int) == (x4_1.length : Int)) = true := beq_iff_eq.mpr c27
                have c27b1 : ((x7_2.length : Int) != (x4_1.length : Int)) = false := bne_eq_false_iff_eq.mpr c27
                have c27b2 : (x7_2.length == x4_1.length) = true := by first | simpa using c27 | (simp at c27 ⊢; omega)
                clear c27
                replace H := Option.bind_eq_some_iff.mp H
                obtain ⟨t1076, A280, H⟩ := H
                replace H : (impl_Case_best.j2 k2 x4_1 x5_1 x7_2 t1075 (decide (t1076 < 0)) ji2 x17_1 l0_0 l0_1 l0_2 l0_3) = some (r1, r2) := H
                have A28 := Aside0.mk A280
                clear A280
                have H' := Aside0.mk H
                clear H
                obtain ⟨Ao29, co29, eo29⟩ := Kd.R_slice HO_4.out
                subst eo29
                go_wp2_with (first | (go_at_call 119; (with_reducible refine (slices_Compare_int_int.calls k2 _ _ x7_2 _ _ x4_1 t1076 _ ?side1 ?side2 ?side3 ?side4 A28.out).mono ?_); (case side1 => exact zC (Kd.R_reads' HO_7.out).2.2); (case side2 => exact (Kd.R_reads' HO_7.out).2.1); (case side3 => exact zC (Kd.R_reads' HO_4.out).2.2); (case side4 => exact (Kd.R_reads' HO_4.out).2.1); rintro e w' ⟨rfl, ⟨nd, rfl⟩⟩))
                go_meet
                case rel => exact ⟨_, (decide (t1076 < 0)), z3, H', ⟨by have := HK1.out; have := HK2.out; first | omega | exact Nat.le_refl _⟩, ⟨by (with_reducible repeat (first | apply Kd.R_alloc | apply Kd.R_drewN | apply Kd.R_drew)); exact Kd.R_mono HO_4.out (fun _ hk => hk.1)⟩, ⟨by (with_reducible repeat (first | apply Kd.R_alloc | apply Kd.R_drewN | apply Kd.R_drew)); exact Kd.R_mono HO_7.out (fun _ hk => hk.1)⟩, ⟨by (with_reducible repeat (first | refine blk_drewN ?_ _ | refine blk_drew ?_ | refine blk_alloc ?_ _)); exact BK1064.out⟩, ⟨by repeat (first | (with_reducible first | exact HB.out | apply below_alloc | apply pw_below_drewN | apply below_drew1 | refine below_set ?_ GE1064.out) | exact HB.out)⟩⟩
              · rw [if_neg c27] at H
                have c27b0 : ((x7_2.length : Int) == (x4_1.length : Int)) = false := beq_eq_false_iff_ne.mpr c27
                have c27b1 : ((x7_2.length : Int) != (x4_1.length : Int)) = true := bne_iff_ne.mpr c27
                have c27b2 : (x7_2.length == x4_1.length) = false := by first | simpa using c27 | (simp at c27 ⊢; omega)
                have H' := Aside0.mk H
                clear H
                obtain ⟨Ao30, co30, eo30⟩ := Kd.R_slice HO_4.out
                subst eo30
                go_wp2
                go_meet
                case rel => exact ⟨_, (false), z3, H', ⟨by have := HK1.out; have := HK2.out; first | omega | exact Nat.le_refl _⟩, ⟨by (with_reducible repeat (first | apply Kd.R_alloc | apply Kd.R_drewN | apply Kd.R_drew)); exact Kd.R_mono HO_4.out (fun _ hk => hk.1)⟩, ⟨by (with_reducible repeat (first | apply Kd.R_alloc | apply Kd.R_drewN | apply Kd.R_drew)); exact Kd.R_mono HO_7.out (fun _ hk => hk.1)⟩, ⟨by (with_reducible repeat (first | refine blk_drewN ?_ _ | refine blk_drew ?_ | refine blk_alloc ?_ _)); exact BK1064.out⟩, ⟨by repeat (first | (with_reducible first | exact HB.out | apply below_alloc | apply pw_below_drewN | apply below_drew1 | refine below_set ?_ GE1064.out) | exact HB.out)⟩⟩
           case rest =>
            clear HC18
            try clear c1
            try clear c2
            try clear p2
            try clear c5
            try clear c5b0
            try clear p6
            try clear c7
            try clear c9
            try clear c9b0
            try clear c10
            try clear c10b0
            try clear c10b1
            try clear c12
            try clear c12b0
            try clear c12b1
            try clear c13
            try clear c16
            try clear c25
            try clear c25b0
            try clear c25b1
            try clear c27
            try clear c27b0
            try clear c27b1
            try clear c27b2
            try clear hcz19_0
            try clear hcz19_1
            try clear hcz19_2
            try clear hcz19_3
            try clear hcz22_0
            try clear hcz22_1
            try clear hcz22_2
            try clear hcz22_3
            try clear hcz4_0
            try clear hcz4_1
            try clear hcz4_2
            try clear hcz4_3
            try clear hcz8_0
            try clear hcz8_1
            try clear hcz8_2
            try clear hcz8_3
            try clear hfz19_0
            try clear hfz19_1
            try clear hfz19_2
            try clear hfz19_3
            try clear hfz22_0
            try clear hfz22_1
            try clear hfz22_2
            try clear hfz22_3
            try clear hfz4_0
            try clear hfz4_1
            try clear hfz4_2
            try clear hfz4_3
            try clear hfz8_0
            try clear hfz8_1
            try clear hfz8_2
            try clear hfz8_3
            try clear p2
            try clear p6
            obtain ⟨kq, x12_17, rfl, HA, HJ17, HO_4, HO_7, BK1064, HB⟩ := hcut
            cases kq with
            | zero => exact absurd HA.out (by simp [impl_Case_best.j2])
            | succ kj17 =>
             have H := HA.out
             clear HA
             simp only [impl_Case_best.j2] at H
             have HC31 := Aside0.mk H
             clear H
             go_upto_region 16 with (fail)
             go_cut [80] (fun v80 wc => ∃ (kq : Nat) (x80_30 : Bool), v80 = .bool x80_30 ∧ Aside0 (impl_Case_best.j3 kq x4_1 x5_1 x7_2 t1075 ji2 x17_1 x80_30 l0_0 l0_1 l0_2 l0_3 = some (r1, r2)) ∧ Aside0 (kq ≤ kj17) ∧ Aside0 (Kd.R (Kd.int .i64) 3 wc w.heap.size (fun k_ => some k_ ≠ ((.slice Ao20 x7_2.length co20) : Value).ownBlock) u4 x4_1) ∧ Aside0 (Kd.R (Kd.int .i64) 3 wc w.heap.size (fun k_ => some k_ ≠ (u4 : Value).ownBlock) (.slice Ao20 x7_2.length co20) x7_2) ∧ Aside0 (wc.heap[gb1064]? = some (.cells #[(.slice A0_0 l0_0.length c0_0), (.slice A0_1 l0_1.length c0_1), (.slice A0_2 l0_2.length c0_2), (.slice A0_3 l0_3.length c0_3)] 49 (0, 0))) ∧ Aside0 (Below w.heap.size w wc))
             case first =>
              have H := HC31.out
              clear HC31
              by_cases c32 : x5_1 < 0
              · rw [if_pos c32] at H
                have c32b0 : decide (x5_1 < 0) = true := decide_eq_true c32
                clear c32
                (first | rw [c32b0] | (simp only [i64_w, i32_w]; rw [c32b0]) | skip)
                have H' := Aside0.mk H
                clear H
                go_wp2
                go_meet
                case rel => exact ⟨_, (true), z3, H', ⟨by have := HK1.out; have := HK2.out; have := HJ17.out; first | omega | exact Nat.le_refl _⟩, ⟨by (with_reducible repeat (first | apply Kd.R_alloc | apply Kd.R_drewN | apply Kd.R_drew)); exact HO_4.out⟩, ⟨by (with_reducible repeat (first | apply Kd.R_alloc | apply Kd.R_drewN | apply Kd.R_drew)); exact HO_7.out⟩, ⟨by (with_reducible repeat (first | refine blk_drewN ?_ _ | refine blk_drew ?_ | refine blk_alloc ?_ _)); exact BK1064.out⟩, ⟨by repeat (first | (with_reducible first | exact HB.out | apply below_alloc | apply pw_below_drewN | apply below_drew1 | refine below_set ?_ GE1064.out) | exact HB.out)⟩⟩
              · rw [if_neg c32] at H
                have c32b0 : decide (x5_1 < 0) = false := decide_eq_false c32
                clear c32
                (first | rw [c32b0] | (simp only [i64_w, i32_w]; rw [c32b0]) | skip)
                by_cases c33 : t1075 < x5_1
                · rw [if_pos c33] at H
                  have c33b0 : decide (t1075 < x5_1) = true := decide_eq_true c33
                  clear c33
                  have H' := Aside0.mk H
                  clear H
                  go_wp2
                  go_meet
                  case rel => exact ⟨_, (true), z3, H', ⟨by have := HK1.out; have := HK2.out; have := HJ17.out; first | omega | exact Nat.le_refl _⟩, ⟨by (with_reducible repeat (first | apply Kd.R_alloc | apply Kd.R_drewN | apply Kd.R_drew)); exact HO_4.out⟩, ⟨by (with_reducible repeat (first | apply Kd.R_alloc | apply Kd.R_drewN | apply Kd.R_drew)); exact HO_7.out⟩, ⟨by (with_reducible repeat (first | refine blk_drewN ?_ _ | refine blk_drew ?_ | refine blk_alloc ?_ _)); exact BK1064.out⟩, ⟨by repeat (first | (with_reducible first | exact HB.out | apply below_alloc | apply pw_below_drewN | apply below_drew1 | refine below_set ?_ GE1064.out) | exact HB.out)⟩⟩
                · rw [if_neg c33] at H
                  have c33b0 : decide (t1075 < x5_1) = false := decide_eq_false c33
                  clear c33
                  by_cases c34 : t1075 = x5_1
                  · rw [if_pos c34] at H
                    have c34b0 : (t1075 == x5_1) = true := beq_iff_eq.mpr c34
                    have c34b1 : (t1075 != x5_1) = false := bne_eq_false_iff_eq.mpr c34
                    clear c34
                    have H' := Aside0.mk H
                    clear H
                    go_wp2
                    go_meet
                    case rel => exact ⟨_, (x12_17), z3, H', ⟨by have := HK1.out; have := HK2.out; have := HJ17.out; first | omega | exact Nat.le_refl _⟩, ⟨by (with_reducible repeat (first | apply Kd.R_alloc | apply Kd.R_drewN | apply Kd.R_drew)); exact HO_4.out⟩, ⟨by (with_reducible repeat (first | apply Kd.R_alloc | apply Kd.R_drewN | apply Kd.R_drew)); exact HO_7.out⟩, ⟨by (with_reducible repeat (first | refine blk_drewN ?_ _ | refine blk_drew ?_ | refine blk_alloc ?_ _)); exact BK1064.out⟩, ⟨by repeat (first | (with_reducible first | exact HB.out | apply below_alloc | apply pw_below_drewN | apply below_drew1 | refine below_set ?_ GE1064.out) | exact HB.out)⟩⟩
                  · rw [if_neg c34] at H
                    have c34b0 : (t1075 == x5_1) = false := beq_eq_false_iff_ne.mpr c34
                    have c34b1 : (t1075 != x5_1) = true := bne_iff_ne.mpr c34
                    have H' := Aside0.mk H
                    clear H
                    go_wp2
                    go_meet
                    case rel => exact ⟨_, (false), z3, H', ⟨by have := HK1.out; have := HK2.out; have := HJ17.out; first | omega | exact Nat.le_refl _⟩, ⟨by (with_reducible repeat (first | apply Kd.R_alloc | apply Kd.R_drewN | apply Kd.R_drew)); exact HO_4.out⟩, ⟨by (with_reducible repeat (first | apply Kd.R_alloc | apply Kd.R_drewN | apply Kd.R_drew)); exact HO_7.out⟩, ⟨by (with_reducible repeat (first | refine blk_drewN ?_ _ | refine blk_drew ?_ | refine blk_alloc ?_ _)); exact BK1064.out⟩, ⟨by repeat (first | (with_reducible first | exact HB.out | apply below_alloc | apply pw_below_drewN | apply below_drew1 | refine below_set ?_ GE1064.out) | exact HB.out)⟩⟩
             case rest =>
              clear HC31
              try clear c1
              try clear c2
              try clear p2
              try clear c3
              try clear c5
              try clear c5b0
              try clear p6
              try clear c7
              try clear c9
              try clear c9b0
              try clear c10
              try clear c10b0
              try clear c10b1
              try clear c12
              try clear c12b0
              try clear c12b1
              try clear c13
              try clear c16
              try clear c25
              try clear c25b0
              try clear c25b1
              try clear c27
              try clear c27b0
              try clear c27b1
              try clear c27b2
              try clear c32
              try clear c32b0
              try clear c33
              try clear c33b0
              try clear c34
              try clear c34b0
              try clear c34b1
              try clear hcz19_0
              try clear hcz19_1
              try clear hcz19_2
              try clear hcz19_3
              try clear hcz22_0
              try clear hcz22_1
              try clear hcz22_2
              try clear hcz22_3
              try clear hcz4_0
              try clear hcz4_1
              try clear hcz4_2
              try clear hcz4_3
              try clear hcz8_0
              try clear hcz8_1
              try clear hcz8_2
              try clear hcz8_3
              try clear hfz19_0
              try clear hfz19_1
              try clear hfz19_2
              try clear hfz19_3
              try clear hfz22_0
              try clear hfz22_1
              try clear hfz22_2
              try clear hfz22_3
              try clear hfz4_0
              try clear hfz4_1
              try clear hfz4_2
              try clear hfz4_3
              try clear hfz8_0
              try clear hfz8_1
              try clear hfz8_2
              try clear hfz8_3
              try clear p2
              try clear p6
              obtain ⟨kq, x80_30, rfl, HA, HJ30, HO_4, HO_7, BK1064, HB⟩ := hcut
              cases kq with
              | zero => exact absurd HA.out (by simp [impl_Case_best.j3])
              | succ kj30 =>
               have H := HA.out
               clear HA
               simp only [impl_Case_best.j3] at H
               by_cases c35 : x80_30 = true
               · subst c35
                 have H1 : (impl_Case_best.l0 kj30 x7_2 t1075 ji2 (wrap64 (x17_1 + 1)) l0_0 l0_1 l0_2 l0_3) = some (r1, r2) := by rw [if_pos rfl] at H; exact H
                 clear H
                 have H := H1
                 clear H1
                 have H' := Aside0.mk H
                 clear H
                 go_wp2
                 go_roundg kj30
                 case measure => have := HK1.out; have := HK2.out; have := HJ17.out; have := HJ30.out; omega
                 case rel => exact ⟨(x7_2), (t1075), (wrap64 (x17_1 + 1)), z3, z3, H', ⟨by have := HK1.out; have := HK2.out; have := HJ17.out; have := HJ30.out; omega⟩, ⟨by (with_reducible repeat (first | apply Kd.R_alloc | apply Kd.R_drewN | apply Kd.R_drew)); exact Kd.R_mono HO_7.out (fun _ hk => trivial)⟩, ⟨by (with_reducible repeat (first | refine blk_drewN ?_ _ | refine blk_drew ?_ | refine blk_alloc ?_ _)); exact BK1064.out⟩, ⟨by repeat (first | (with_reducible first | exact HB.out | apply below_alloc | apply pw_below_drewN | apply below_drew1 | refine below_set ?_ GE1064.out) | exact HB.out)⟩⟩
               · replace c35 := Bool.eq_false_iff.mpr c35
                 subst c35
                 have H1 : (impl_Case_best.l0 kj30 x4_1 x5_1 ji2 (wrap64 (x17_1 + 1)) l0_0 l0_1 l0_2 l0_3) = some (r1, r2) := by rw [if_neg (show ¬ (false = true) by decide)] at H; exact H
                 clear H
                 have H := H1
                 clear H1
                 have H' := Aside0.mk H
                 clear H
                 go_wp2
                 go_roundg kj30
                 case measure => have := HK1.out; have := HK2.out; have := HJ17.out; have := HJ30.out; omega
                 case rel => exact ⟨(x4_1), (x5_1), (wrap64 (x17_1 + 1)), z3, z3, H', ⟨by have := HK1.out; have := HK2.out; have := HJ17.out; have := HJ30.out; omega⟩, ⟨by (with_reducible repeat (first | apply Kd.R_alloc | apply Kd.R_drewN | apply Kd.R_drew)); exact Kd.R_mono HO_4.out (fun _ hk => trivial)⟩, ⟨by (with_reducible repeat (first | refine blk_drewN ?_ _ | refine blk_drew ?_ | refine blk_alloc ?_ _)); exact BK1064.out⟩, ⟨by repeat (first | (with_reducible first | exact HB.out | apply below_alloc | apply pw_below_drewN | apply below_drew1 | refine below_set ?_ GE1064.out) | exact HB.out)⟩⟩
         · replace c16 := Bool.eq_false_iff.mpr c16
           subst c16
           have H1 : (impl_Case_best.l0 k2 x4_1 x5_1 ji2 (wrap64 (x17_1 + 1)) l0_0 l0_1 l0_2 l0_3) = some (r1, r2) := by rw [if_neg (show ¬ (false = true) by decide)] at H; exact H
           clear H
           have H := H1
           clear H1
           have H' := Aside0.mk H
           clear H
           have hcz36_0 : wr.cell? ⟨gb1064, 0, none⟩ = some (.slice A0_0 l0_0.length c0_0) := (blk_cell BK1064.out 0).trans rfl
           have hcz36_1 : wr.cell? ⟨gb1064, 1, none⟩ = some (.slice A0_1 l0_1.length c0_1) := (blk_cell BK1064.out 1).trans rfl
           have hcz36_2 : wr.cell? ⟨gb1064, 2, none⟩ = some (.slice A0_2 l0_2.length c0_2) := (blk_cell BK1064.out 2).trans rfl
           have hcz36_3 : wr.cell? ⟨gb1064, 3, none⟩ = some (.slice A0_3 l0_3.length c0_3) := (blk_cell BK1064.out 3).trans rfl
           have hfz36_0 := blk_frozen BK1064.out 0
           have hfz36_1 := blk_frozen BK1064.out 1
           have hfz36_2 := blk_frozen BK1064.out 2
           have hfz36_3 := blk_frozen BK1064.out 3
           obtain ⟨Ao37, co37, eo37⟩ := Kd.R_slice HO_7.out
           subst eo37
           go_wp2_with (first | ((with_reducible refine gate_callee (f := 71) rfl ?_); refine goesL_ (some 40) rfl rfl Try.func71 (by kernel_rfl) rfl #[.agg #[.slice A0_0 l0_0.length c0_0, .slice A0_1 l0_1.length c0_1, .slice A0_2 l0_2.length c0_2, .slice A0_3 l0_3.length c0_3], .slice Ao37 x7_2.length co37] rfl z1 ?_; (with_reducible refine (impl_Case_planFrom.calls k2 _ _ l0_0 _ _ l0_1 _ _ l0_2 _ _ l0_3 _ _ x7_2 t1071 false _ ?side1 ?side2 ?side3 ?side4 ?side5 ?side6 ?side7 ?side8 ?side9 ?side10 A15.out).mono ?_); (case side1 => exact zC (Kd.C_below HR0_0.out HB.out)); (case side2 => exact HC0_0.out); (case side3 => exact zC (Kd.C_below HR0_1.out HB.out)); (case side4 => exact HC0_1.out); (case side5 => exact zC (Kd.C_below HR0_2.out HB.out)); (case side6 => exact HC0_2.out); (case side7 => exact zC (Kd.C_below HR0_3.out HB.out)); (case side8 => exact HC0_3.out); (case side9 => exact zC (Kd.R_reads' HO_7.out).2.2); (case side10 => exact (Kd.R_reads' HO_7.out).2.1); rintro e w38 ⟨v1072, rfl, ho0, hb⟩; refine ⟨_, rfl, ?_⟩; have n0_ := Aside0.mk (Kd.R_elder' (zR HO_4.out) (Kd.R_base ho0) hb); have n1_ := Aside0.mk (Kd.R_elder' (zR HO_7.out) (Kd.R_base ho0) hb); have n2_ := Aside0.mk (Kd.R_lower (Kd.R_new' (Kd.R_new' ho0 (Kd.R_lt (zR HO_4.out))) (Kd.R_lt (zR HO_7.out))) (below_size (zH1 GE1064.out))); have n3_ := Aside0.mk (blk_below (g := gb1064) (o := .cells #[.slice A0_0 l0_0.length c0_0, .slice A0_1 l0_1.length c0_1, .slice A0_2 l0_2.length c0_2, .slice A0_3 l0_3.length c0_3] 49 (0, 0)) (zB BK1064.out) hb); have n4_ := Aside0.mk (below_step (zH1 GE1064.out) hb); clear HO_4; clear HO_7; clear BK1064; clear HB; have HO_4 := n0_; have HO_7 := n1_; have HO1073 := n2_; have BK1064 := n3_; have HB := n4_; clear n0_ n1_ n2_ n3_ n4_; (try clear hb); (try clear hb2); (try clear hk); (try clear hi); (try clear ho0)))
           go_roundg k2
           case measure => have := HK1.out; have := HK2.out; omega
           case rel => exact ⟨(x4_1), (x5_1), (wrap64 (x17_1 + 1)), z3, z3, H', ⟨by have := HK1.out; have := HK2.out; omega⟩, ⟨by (with_reducible repeat (first | apply Kd.R_alloc | apply Kd.R_drewN | apply Kd.R_drew)); exact Kd.R_mono HO_4.out (fun _ hk => trivial)⟩, ⟨by (with_reducible repeat (first | refine blk_drewN ?_ _ | refine blk_drew ?_ | refine blk_alloc ?_ _)); exact BK1064.out⟩, ⟨by repeat (first | (with_reducible first | exact HB.out | apply below_alloc | apply pw_below_drewN | apply below_drew1 | refine below_set ?_ GE1064.out) | exact HB.out)⟩⟩
   · rw [if_neg c5] at H
     have c5b0 : decide (x17_1 < ji2) = false := decide_eq_false c5
     clear c5
     simp only [Option.some.injEq, Prod.mk.injEq] at H
     obtain ⟨rfl, rfl⟩ := H
     go_wp2
     go_ret2
     exact ⟨_, by first | rfl | (simp [errW_none, errW_some] <;> rfl) | (simp only [← hji2]; first | rfl | (simp [errW_none, errW_some] <;> rfl)) | (simp [*, errW_none, errW_some] <;> rfl), by (with_reducible repeat (first | apply Kd.R_alloc | apply Kd.R_drewN | apply Kd.R_drew)); exact HO_4.out, by repeat (first | (with_reducible first | exact HB.out | apply below_alloc | apply pw_below_drewN | apply below_drew1 | refine below_set ?_ GE1064.out) | exact HB.out)⟩
end Go.Proofs.Ythlmmcmpllgflaa.P
namespace Go.Proofs.Ythlmmcmpllgflaa.P
open Go.RowKit Go.Proofs.YthlmmcmpllgflaaW.PrintWords Go.Proofs.YthlmmcmpllgflaaW.PrintLast Go.Proofs.YthlmmcmpllgflaaW.PrintMore
attribute [local go_sem] max2_int min2_int max_two min_two max_three min_three max_four min_four
set_option linter.unusedVariables false
set_option linter.unusedSimpArgs false
def spec_l2From.l0 : Nat → List Int → List Int → Int → List Int → List Int → List Int → List Int → Option (List Int)
 | 0, _, _, _, _, _, _, _ => none
 | k + 1, x1, x5, x6, x1129000, x1129001, x1129002, x1129003 => if x6 < (x1.length : Int) then (if (wrap64 (x6 + 1)) < (x1.length : Int) then (if 0 ≤ (wrap64 (x6 + 1)) then (if 0 ≤ x6 then (if 0 ≤ (rd x1 x6) then (if (rd x1 x6) ≤ (rd x1 (wrap64 (x6 + 1))) then (if (rd x1 (wrap64 (x6 + 1))) ≤ (x1129000.length : Int) then ((spec_l2Sum.f k ((x1129000.take ((rd x1 (wrap64 (x6 + 1))) : Int).toNat).drop ((rd x1 x6) : Int).toNat)).bind fun t1136 => (if (rd x1 x6) < (x5.length : Int) then (spec_l2From.l0 k x1 (x5.set ((rd x1 x6) : Int).toNat t1136) (wrap64 (x6 + 1)) x1129000 x1129001 x1129002 x1129003) else (none))) else (none)) else (none)) else (none)) else (none)) else (none)) else (if 0 ≤ x6 then (if 0 ≤ (rd x1 x6) then (if (rd x1 x6) ≤ (x1129000.length : Int) then (if (x1129000.length : Int) ≤ (x1129000.length : Int) then ((spec_l2Sum.f k ((x1129000.take ((x1129000.length : Int) : Int).toNat).drop ((rd x1 x6) : Int).toNat)).bind fun t1141 => (if (rd x1 x6) < (x5.length : Int) then (spec_l2From.l0 k x1 (x5.set ((rd x1 x6) : Int).toNat t1141) (wrap64 (x6 + 1)) x1129000 x1129001 x1129002 x1129003) else (none))) else (none)) else (none)) else (none)) else (none))) else (some x5)
def spec_l2From.f (k : Nat) (l0_0 : List Int) (l0_1 : List Int) (l0_2 : List Int) (l0_3 : List Int) (l1 : List Int) : Option (List Int) := if 0 ≤ (l0_0.length : Int) then (if ((l0_0.length : Int) : Int).toNat ≤ 35184372088832 then (spec_l2From.l0 k l1 (List.replicate ((l0_0.length : Int) : Int).toNat 0) 0 l0_0 l0_1 l0_2 l0_3) else (none)) else (none)
def spec_l2From.T8 : Bool × List (List Nat × List Nat) := (true, [([], []), ([], []), ([], []), ([1, 2], [1, 2]), ([3], [3]), ([], []), ([5], [5]), ([], []), ([], []), ([7, 8], [7, 8]), ([9], [9]), ([], []), ([6, 10, 11], [6, 10, 11]), ([12], [12]), ([0, 4, 0, 1, 2, 3, 4, 5, 6, 7, 8, 9, 10, 11, 12, 13], [0, 4]), ([14, 13, 13, 0, 1, 2, 3, 4, 5, 6, 7, 8, 9, 10, 11, 12, 13], [13, 14])])
def spec_l2From.B8 : List Nat := [0, 0, 0, 6, 14, 0, 32, 0, 0, 384, 896, 0, 4064, 8160, 16383, 32767]
theorem spec_l2From.tab8 : rtab .any (opsOf Try.f74 8) = spec_l2From.T8 := by kernel_rfl
theorem spec_l2From.bits8 : waitsOk spec_l2From.T8.2 spec_l2From.B8 = true := by kernel_rfl
set_option maxHeartbeats 8000000 in
set_option maxRecDepth 100000 in
theorem spec_l2From.calls (k : Nat) (A0_0 : Option Addr) (c0_0 : Nat) (l0_0 : List Int) (A0_1 : Option Addr) (c0_1 : Nat) (l0_1 : List Int) (A0_2 : Option Addr) (c0_2 : Nat) (l0_2 : List Int) (A0_3 : Option Addr) (c0_3 : Nat) (l0_3 : List Int) (A1 : Option Addr) (c1 : Nat) (l1 : List Int) (r : List Int) (w : World) (hr0_0 : Kd.C (Kd.int .i64) w A0_0 l0_0.length l0_0) (hc0_0 : l0_0.length ≤ c0_0) (hr0_1 : Kd.C (Kd.int .i64) w A0_1 l0_1.length l0_1) (hc0_1 : l0_1.length ≤ c0_1) (hr0_2 : Kd.C (Kd.int .i64) w A0_2 l0_2.length l0_2) (hc0_2 : l0_2.length ≤ c0_2) (hr0_3 : Kd.C (Kd.int .i64) w A0_3 l0_3.length l0_3) (hc0_3 : l0_3.length ≤ c0_3) (hr1 : Kd.C (Kd.int .i64) w A1 l1.length l1) (hc1 : l1.length ≤ c1) (h : spec_l2From.f k l0_0 l0_1 l0_2 l0_3 l1 = some r) :
 Calls Try.prog 74 #[.agg #[.slice A0_0 l0_0.length c0_0, .slice A0_1 l0_1.length c0_1, .slice A0_2 l0_2.length c0_2, .slice A0_3 l0_3.length c0_3], .slice A1 l1.length c1] w fun e w' => ∃ v0_ : Value, e = .returned (v0_) ∧ Kd.R (Kd.int .i64) 3 w' w.heap.size (fun _ => True) v0_ r ∧ Below w.heap.size w w' := by
 have hu49 := Try.underlying49
 have HR0_0 := Aside0.mk hr0_0
 have HC0_0 := Aside0.mk hc0_0
 clear hr0_0 hc0_0
 have HR0_1 := Aside0.mk hr0_1
 have HC0_1 := Aside0.mk hc0_1
 clear hr0_1 hc0_1
 have HR0_2 := Aside0.mk hr0_2
 have HC0_2 := Aside0.mk hc0_2
 clear hr0_2 hc0_2
 have HR0_3 := Aside0.mk hr0_3
 have HC0_3 := Aside0.mk hc0_3
 clear hr0_3 hc0_3
 have HR1 := Aside0.mk hr1
 have HC1 := Aside0.mk hc1
 clear hr1 hc1
 have HB := Aside0.mk (Below.refl w.heap.size w)
 have H : (if 0 ≤ (l0_0.length : Int) then (if ((l0_0.length : Int) : Int).toNat ≤ 35184372088832 then (spec_l2From.l0 k l1 (List.replicate ((l0_0.length : Int) : Int).toNat 0) 0 l0_0 l0_1 l0_2 l0_3) else (none)) else (none)) = some r := h
 clear h
 by_cases c3 : 0 ≤ (l0_0.length : Int)
 · rw [if_pos c3] at H
   have c3b0 := eq_true c3
   have c3b1 : decide (0 ≤ (l0_0.length : Int)) = true := decide_eq_true c3
   clear c3
   by_cases c4 : ((l0_0.length : Int) : Int).toNat ≤ 35184372088832
   · rw [if_pos c4] at H
     have c4b0 := eq_true c4
     have c4b1 : decide (((l0_0.length : Int) : Int).toNat ≤ 35184372088832) = true := decide_eq_true c4
     clear c4
     obtain ⟨y1129, hy1129⟩ : ∃ y_ : List Int, y_ = (List.replicate ((l0_0.length : Int) : Int).toNat 0) := ⟨_, rfl⟩
     replace H : (spec_l2From.l0 k l1 y1129 0 l0_0 l0_1 l0_2 l0_3) = some r := by first | (rw [hy1129]; with_reducible exact H) | (have H2_ := (Option.bind_some _ _).symm.trans H; rw [hy1129]; with_reducible exact H2_) | (have H2_ := (Option.bind_some _ _).symm.trans H; with_reducible exact H2_) | with_reducible exact H | (rw [hy1129]; exact H) | exact H
     have Ny1129 := Aside0.mk hy1129
     clear hy1129
     have H' := Aside0.mk H
     clear H
     go_enter Try.func74, Try.ntmps74
     go_wp2_with (first | ((with_reducible refine gate_dst (N := 2) rfl ?_); refine box_event ?hg (N := 2) ?hd (cs := #[.slice A0_0 l0_0.length c0_0, .slice A0_1 l0_1.length c0_1, .slice A0_2 l0_2.length c0_2, .slice A0_3 l0_3.length c0_3]) (t := 49) ?hr ?_; (case hd => rfl); (case hg => rfl); (case hr => first | (go_simp; done) | (go_simp; rfl)); intro gb1128 hg w5 hbox hb; have n0_ := Aside0.mk (below_step zH0 hb); have n1_ := Aside0.mk (hbox); have n2_ := Aside0.mk ((z6 : w.heap.size ≤ gb1128)); have n3_ := Aside0.mk ((z6 : w.heap.size ≤ gb1128)); clear HB; have HB := n0_; have BK1128 := n1_; have GW1128 := n2_; have GE1128 := n3_; clear n0_ n1_ n2_ n3_; clear hb hbox hg; have hcz6_0 : w5.cell? ⟨gb1128, 0, none⟩ = some (.slice A0_0 l0_0.length c0_0) := (blk_cell BK1128.out 0).trans rfl; have hcz6_1 : w5.cell? ⟨gb1128, 1, none⟩ = some (.slice A0_1 l0_1.length c0_1) := (blk_cell BK1128.out 1).trans rfl; have hcz6_2 : w5.cell? ⟨gb1128, 2, none⟩ = some (.slice A0_2 l0_2.length c0_2) := (blk_cell BK1128.out 2).trans rfl; have hcz6_3 : w5.cell? ⟨gb1128, 3, none⟩ = some (.slice A0_3 l0_3.length c0_3) := (blk_cell BK1128.out 3).trans rfl; have hfz6_0 := blk_frozen BK1128.out 0; have hfz6_1 := blk_frozen BK1128.out 1; have hfz6_2 := blk_frozen BK1128.out 2; have hfz6_3 := blk_frozen BK1128.out 3) | ((with_reducible refine gate_dst (N := 11) rfl ?_); refine Kd.R_make (Kd.int .i64) _ 3 rfl (N := 11) rfl 24 _ _ rfl (l0_0.length : Int) rfl rfl Try.underlying24 (.int .i64 0) 8 info3 rfl (by decide) (by omega) 0 (ok := fun _ => True) (okp := fun _ => True) rfl (fun _ hk => hk) trivial (of_decide_eq_true z2) (Nat.le_trans (Nat.mul_le_mul_right _ (of_decide_eq_true z2 : (l0_0.length : Int).toNat ≤ 35184372088832)) (by omega)) (Below.refl _ _) (Nat.le_refl _) ?_; intro v1130 w7 ho8 hb hg_ hnew_; clear hg_ hnew_; (first | rw [← Ny1129.out] at ho8 | (simp only [Int.reduceToNat] at ho8; rw [← Ny1129.out] at ho8)); have n0_ := Aside0.mk (Kd.R_lower ho8 (below_size (zH1 GE1128.out))); have n1_ := Aside0.mk (blk_below (g := gb1128) (o := .cells #[.slice A0_0 l0_0.length c0_0, .slice A0_1 l0_1.length c0_1, .slice A0_2 l0_2.length c0_2, .slice A0_3 l0_3.length c0_3] 49 (0, 0)) (zB BK1128.out) hb); have n2_ := Aside0.mk (below_step (zH1 GE1128.out) hb); clear BK1128; clear HB; have HO1131 := n0_; have BK1128 := n1_; have HB := n2_; clear n0_ n1_ n2_; clear hb ho8))
     go_loopg [6] k (fun kq v6 w' => ∃ (x5_1 : List Int) (x6_1 : Int), v6 = .int .i64 x6_1 ∧ Aside0 (spec_l2From.l0 kq l1 x5_1 x6_1 l0_0 l0_1 l0_2 l0_3 = some r) ∧ Aside0 (kq ≤ k) ∧ Aside0 (Kd.R (Kd.int .i64) 3 w' w.heap.size (fun _ => True) v1130 x5_1) ∧ Aside0 (w'.heap[gb1128]? = some (.cells #[(.slice A0_0 l0_0.length c0_0), (.slice A0_1 l0_1.length c0_1), (.slice A0_2 l0_2.length c0_2), (.slice A0_3 l0_3.length c0_3)] 49 (0, 0))) ∧ Aside0 (Below w.heap.size w w'))
     case atStart => exact ⟨(y1129), (0), z3, H', ⟨Nat.le_refl _⟩, ⟨by (with_reducible repeat (first | apply Kd.R_alloc | apply Kd.R_drewN | apply Kd.R_drew)); exact HO1131.out⟩, ⟨by (with_reducible repeat (first | refine blk_drewN ?_ _ | refine blk_drew ?_ | refine blk_alloc ?_ _)); exact BK1128.out⟩, ⟨by repeat (first | (with_reducible first | exact HB.out | apply below_alloc | apply pw_below_drewN | apply below_drew1 | refine below_set ?_ GE1128.out) | exact HB.out)⟩⟩
     case round =>
      clear H'
      try clear c1
      try clear p2
      try clear c3
      try clear c3b0
      try clear c3b1
      try clear c4
      try clear c4b0
      try clear c4b1
      try clear c7
      try clear hcz6_0
      try clear hcz6_1
      try clear hcz6_2
      try clear hcz6_3
      try clear hfz6_0
      try clear hfz6_1
      try clear hfz6_2
      try clear hfz6_3
      obtain ⟨x5_1, x6_1, rfl, HA, HK1, HO_5, BK1128, HB⟩ := hrel
      cases gk with
      | zero => exact absurd HA.out (by simp [spec_l2From.l0])
      | succ k1 =>
       have H := HA.out
       clear HA
       simp only [spec_l2From.l0] at H
       by_cases c9 : x6_1 < (l1.length : Int)
       · rw [if_pos c9] at H
         have c9b0 : decide (x6_1 < (l1.length : Int)) = true := decide_eq_true c9
         clear c9
         by_cases c10 : (wrap64 (x6_1 + 1)) < (l1.length : Int)
         · rw [if_pos c10] at H
           have c10b0 : decide ((wrap64 (x6_1 + 1)) < (l1.length : Int)) = true := decide_eq_true c10
           clear c10
           obtain ⟨ji11, hji11⟩ : ∃ j_ : Int, (wrap64 (x6_1 + 1)) = j_ := ⟨_, rfl⟩
           replace H : (if 0 ≤ (ji11) then (if 0 ≤ x6_1 then (if 0 ≤ (rd l1 x6_1) then (if (rd l1 x6_1) ≤ (rd l1 (ji11)) then (if (rd l1 (ji11)) ≤ (l0_0.length : Int) then ((spec_l2Sum.f k1 ((l0_0.take ((rd l1 (ji11)) : Int).toNat).drop ((rd l1 x6_1) : Int).toNat)).bind fun t1136 => (if (rd l1 x6_1) < (x5_1.length : Int) then (spec_l2From.l0 k1 l1 (x5_1.set ((rd l1 x6_1) : Int).toNat t1136) ji11 l0_0 l0_1 l0_2 l0_3) else (none))) else (none)) else (none)) else (none)) else (none)) else (none)) = some r := by first | (rw [hji11] at H; exact H) | (simp only [hji11] at H ⊢; exact H)
           (try rw [hji11] at c10b0)
           have hji11w : (IntKind.i64.wrap (x6_1 + 1)) = ji11 := (i64_w _).trans hji11
           by_cases c12 : 0 ≤ (ji11)
           · rw [if_pos c12] at H
             have c12b0 : decide (0 ≤ (ji11)) = true := decide_eq_true c12
             clear c12
             by_cases c13 : 0 ≤ x6_1
             · rw [if_pos c13] at H
               have c13b0 : decide (0 ≤ x6_1) = true := decide_eq_true c13
               clear c13
               by_cases c14 : 0 ≤ (rd l1 x6_1)
               · rw [if_pos c14] at H
                 have c14b0 := eq_true c14
                 have c14b1 : decide (0 ≤ (rd l1 x6_1)) = true := decide_eq_true c14
                 clear c14
                 by_cases c15 : (rd l1 x6_1) ≤ (rd l1 (ji11))
                 · rw [if_pos c15] at H
                   have c15b0 := eq_true c15
                   have c15b1 : decide ((rd l1 x6_1) ≤ (rd l1 (ji11))) = true := decide_eq_true c15
                   clear c15
                   by_cases c16 : (rd l1 (ji11)) ≤ (l0_0.length : Int)
                   · rw [if_pos c16] at H
                     have c16b0 := eq_true c16
                     have c16b1 : decide ((rd l1 (ji11)) ≤ (l0_0.length : Int)) = true := decide_eq_true c16
                     clear c16
                     replace H := Option.bind_eq_some_iff.mp H
                     obtain ⟨t1136, A170, H⟩ := H
                     replace H : (if (rd l1 x6_1) < (x5_1.length : Int) then (spec_l2From.l0 k1 l1 (x5_1.set ((rd l1 x6_1) : Int).toNat t1136) ji11 l0_0 l0_1 l0_2 l0_3) else (none)) = some r := H
                     have A17 := Aside0.mk A170
                     clear A170
                     by_cases c18 : (rd l1 x6_1) < (x5_1.length : Int)
                     · rw [if_pos c18] at H
                       have c18b0 : decide ((rd l1 x6_1) < (x5_1.length : Int)) = true := decide_eq_true c18
                       clear c18
                       obtain ⟨y1137, hy1137⟩ : ∃ y_ : List Int, y_ = (x5_1.set ((rd l1 x6_1) : Int).toNat t1136) := ⟨_, rfl⟩
                       replace H : (spec_l2From.l0 k1 l1 y1137 ji11 l0_0 l0_1 l0_2 l0_3) = some r := by first | (rw [hy1137]; with_reducible exact H) | (have H2_ := (Option.bind_some _ _).symm.trans H; rw [hy1137]; with_reducible exact H2_) | (have H2_ := (Option.bind_some _ _).symm.trans H; with_reducible exact H2_) | with_reducible exact H | (rw [hy1137]; exact H) | exact H
                       have Ny1137 := Aside0.mk hy1137
                       clear hy1137
                       have H' := Aside0.mk H
                       clear H
                       have hcz20_0 : wr.cell? ⟨gb1128, 0, none⟩ = some (.slice A0_0 l0_0.length c0_0) := (blk_cell BK1128.out 0).trans rfl
                       have hcz20_1 : wr.cell? ⟨gb1128, 1, none⟩ = some (.slice A0_1 l0_1.length c0_1) := (blk_cell BK1128.out 1).trans rfl
                       have hcz20_2 : wr.cell? ⟨gb1128, 2, none⟩ = some (.slice A0_2 l0_2.length c0_2) := (blk_cell BK1128.out 2).trans rfl
                       have hcz20_3 : wr.cell? ⟨gb1128, 3, none⟩ = some (.slice A0_3 l0_3.length c0_3) := (blk_cell BK1128.out 3).trans rfl
                       have hfz20_0 := blk_frozen BK1128.out 0
                       have hfz20_1 := blk_frozen BK1128.out 1
                       have hfz20_2 := blk_frozen BK1128.out 2
                       have hfz20_3 := blk_frozen BK1128.out 3
                       have p1132 : 0 ≤ ((ji11) : Int) := of_decide_eq_true z2
                       have q1132 : (ji11) < (l1.length : Int) := of_decide_eq_true z2
                       obtain ⟨ad1132, e1132, hx1132_0⟩ := Kd.at_int HR1.out (ji11) p1132 q1132
                       cases e1132
                       replace hx1132_0 := (HB.out.cell (World.block_lt_of_cell? w _ hx1132_0)).trans hx1132_0
                       replace p1132 := eq_true p1132
                       replace q1132 := eq_true q1132
                       try go_wp2
                       have n0_ := Aside0.mk (Kd.R_drew HO_5.out)
                       have n1_ := Aside0.mk (blk_drew BK1128.out)
                       have n2_ := Aside0.mk (below_drew1 HB.out)
                       clear HO_5
                       clear BK1128
                       clear HB
                       have HO_5 := n0_
                       have BK1128 := n1_
                       have HB := n2_
                       clear n0_ n1_ n2_
                       have p1133 : 0 ≤ (x6_1 : Int) := of_decide_eq_true z2
                       have q1133 : x6_1 < (l1.length : Int) := of_decide_eq_true z2
                       obtain ⟨ad1133, e1133, hx1133_0⟩ := Kd.at_int HR1.out x6_1 p1133 q1133
                       have hw1133_0 := hx1133_0
                       obtain rfl : ad1132 = ad1133 := (by injection e1133)
                       replace hx1133_0 := (HB.out.cell (World.block_lt_of_cell? w _ hx1133_0)).trans hx1133_0
                       replace p1133 := eq_true p1133
                       replace q1133 := eq_true q1133
                       have p1134 : 0 ≤ (x6_1 : Int) := of_decide_eq_true z2
                       have q1134 : x6_1 < (l1.length : Int) := of_decide_eq_true z2
                       obtain ⟨ad1134, e1134, hx1134_0⟩ := Kd.at_int HR1.out x6_1 p1134 q1134
                       have hw1134_0 := hx1134_0
                       obtain rfl : ad1132 = ad1134 := (by injection e1134)
                       replace hx1134_0 := (HB.out.cell (World.block_lt_of_cell? w _ hx1134_0)).trans hx1134_0
                       replace p1134 := eq_true p1134
                       replace q1134 := eq_true q1134
                       obtain ⟨i022, hi022, _, hsz22, _⟩ := info_parts info3
                       obtain ⟨A22, hcut22, hA22, hC22⟩ := print_mid_of (P := Try.prog) (Value.int .i64) 0 24 3 .i64 .i64 Try.underlying24 hi022 hsz22 A0_0 c0_0 l0_0 (rd l1 x6_1) (rd l1 (ji11)) (of_decide_eq_true z2) (by first | omega | exact of_decide_eq_true z2) (of_decide_eq_true z2) HC0_0.out
                       have HR1135 := Aside0.mk (Kd.C_of_reads (h1 := fun _ => rfl) (hA22 _ (Kd.reads_of_C HR0_0.out)))
                       have HC1135 := Aside0.mk hC22
                       clear hA22 hC22 hi022 hsz22
                       refine start_ (n := 16) (S := fun w' => w'.cell? ⟨gb1128, 0, none⟩ = some (.slice A0_0 l0_0.length c0_0) ∧ w'.cell? ⟨gb1128, 1, none⟩ = some (.slice A0_1 l0_1.length c0_1) ∧ w'.cell? ⟨gb1128, 2, none⟩ = some (.slice A0_2 l0_2.length c0_2) ∧ w'.cell? ⟨gb1128, 3, none⟩ = some (.slice A0_3 l0_3.length c0_3) ∧ w'.cell? (ad1132.add (x6_1).toNat) = some (.int .i64 (rd l1 x6_1)) ∧ w'.cell? (ad1132.add (x6_1).toNat) = some (.int .i64 (rd l1 x6_1))) (ds := [15]) #[false, false, false, false, false, false, false, false, false, false, false, false, false, false, false, false] (by kernel_rfl) rfl rfl ⟨(blk_cell BK1128.out 0).trans rfl, (blk_cell BK1128.out 1).trans rfl, (blk_cell BK1128.out 2).trans rfl, (blk_cell BK1128.out 3).trans rfl, ((HB.out.cell (World.block_lt_of_cell? w _ hw1133_0)).trans hw1133_0), ((HB.out.cell (World.block_lt_of_cell? w _ hw1134_0)).trans hw1134_0)⟩ (fun hHeld => ?_); refine with_tabW spec_l2From.tab8 spec_l2From.bits8 (fun HT_ HW_ => ?_)
                       generalize wr.drew = w21 at HO_5 BK1128 HB HR1135 hx1133_0 hx1134_0 hHeld ⊢
                       refine zP (i := 0) (N := some 31) #[true, false, false, false, false, false, false, false, false, false, false, false, false, false, false, false] (any_of HT_.out (by kernel_rfl)) ?_
                       refine zP (i := 1) (N := some 32) #[true, true, false, false, false, false, false, false, false, false, false, false, false, false, false, false] (any_of HT_.out (by kernel_rfl)) ?_
                       refine zP (i := 2) (N := some 33) #[true, true, true, false, false, false, false, false, false, false, false, false, false, false, false, false] (any_of HT_.out (by kernel_rfl)) ?_
                       refine zP (i := 3) (N := some 34) #[true, true, true, true, false, false, false, false, false, false, false, false, false, false, false, false] (any_of HT_.out (by kernel_rfl)) ?_
                       refine zP (i := 5) (N := some 36) #[true, true, true, true, false, true, false, false, false, false, false, false, false, false, false, false] (any_of HT_.out (by kernel_rfl)) ?_
                       refine zP (i := 7) (N := some 38) #[true, true, true, true, false, true, false, true, false, false, false, false, false, false, false, false] (any_of HT_.out (by kernel_rfl)) ?_
                       refine zP (i := 8) (N := some 39) #[true, true, true, true, false, true, false, true, true, false, false, false, false, false, false, false] (any_of HT_.out (by kernel_rfl)) ?_
                       refine zP (i := 9) (N := some 40) #[true, true, true, true, false, true, false, true, true, true, false, false, false, false, false, false] (any_of HT_.out (by kernel_rfl)) ?_
                       refine zP (i := 11) (N := some 42) #[true, true, true, true, false, true, false, true, true, true, false, true, false, false, false, false] (any_of HT_.out (by kernel_rfl)) ?_
                       refine take_ (i := 4) (N := some 35) (v := ?_) (a' := ?_) #[true, true, true, true, true, true, false, true, true, true, false, true, false, false, false, false] rfl rfl (take_ofW HT_.out HW_.out (by kernel_rfl)) (fun _ _ _ h => h) (Or.inl ⟨by rfl, ?_⟩) hHeld ?_ ?_
                       rotate_left
                       · rintro w' ⟨s0, s1, s2, s3, s4, s5⟩
                         go_simp
                         with_reducible rfl
                       rotate_left
                       · simp only [Act.put, List.setIfInBounds_toArray, List.set_cons_zero, List.set_cons_succ, i64_w, i32_w]
                         rfl
                       refine take_ (i := 6) (N := some 37) (v := ?_) (a' := ?_) #[true, true, true, true, true, true, true, true, true, true, false, true, false, false, false, false] rfl rfl (take_ofW HT_.out HW_.out (by kernel_rfl)) (fun _ _ _ h => h) (Or.inl ⟨by rfl, ?_⟩) hHeld ?_ ?_
                       rotate_left
                       · rintro w' ⟨s0, s1, s2, s3, s4, s5⟩
                         go_simp
                         with_reducible rfl
                       rotate_left
                       · simp only [Act.put, List.setIfInBounds_toArray, List.set_cons_zero, List.set_cons_succ, i64_w, i32_w]
                         rfl
                       refine take_ (i := 10) (N := some 41) (v := ?_) (a' := ?_) #[true, true, true, true, true, true, true, true, true, true, true, true, false, false, false, false] rfl rfl (take_ofW HT_.out HW_.out (by kernel_rfl)) (fun _ _ _ h => h) (Or.inl ⟨by rfl, ?_⟩) hHeld ?_ ?_
                       rotate_left
                       · rintro w' ⟨s0, s1, s2, s3, s4, s5⟩
                         go_simp
                         with_reducible rfl
                       rotate_left
                       · simp only [Act.put, List.setIfInBounds_toArray, List.set_cons_zero, List.set_cons_succ, i64_w, i32_w]
                         rfl
                       refine zP (i := 12) (N := some 43) #[true, true, true, true, true, true, true, true, true, true, true, true, true, false, false, false] (any_of HT_.out (by kernel_rfl)) ?_
                       refine one_ (i := 13) (N := some 44) #[true, true, true, true, true, true, true, true, true, true, true, true, true, true, false, false] rfl rfl (one_of HT_.out (by kernel_rfl)) (by decide) (fun K hK => ?_)
                       refine goes_ Try.func115 (by kernel_rfl) rfl #[.slice A22 ((l0_0.take ((rd l1 (ji11)) : Int).toNat).drop ((rd l1 x6_1) : Int).toNat).length (c0_0 - (rd l1 x6_1).toNat)] (by rfl) rfl rfl (by (try simp only [List.map_toArray, List.map_cons, List.map_nil]); first | done | (rw [show ((l0_0.take ((rd l1 (ji11)) : Int).toNat).drop ((rd l1 x6_1) : Int).toNat).length = ((rd l1 (ji11)).toNat - (rd l1 x6_1).toNat) from (by rw [List.length_drop, List.length_take]; have h_ : ((rd l1 (ji11)) : Int) ≤ (l0_0.length : Int) := of_decide_eq_true z2; omega)] <;> rfl) | (simp only [hji11]; rfl) | rfl | (simp only [List.length_drop, List.length_take]; rfl)) ?_
                       with_reducible refine (spec_l2Sum.calls k1 _ _ ((l0_0.take ((rd l1 (ji11)) : Int).toNat).drop ((rd l1 x6_1) : Int).toNat) t1136 _ ?side1 ?side2 A17.out).mono ?_
                       (case side1 => exact zC (Kd.C_below HR1135.out HB.out))
                       (case side2 => exact HC1135.out)
                       rintro e w' ⟨rfl, ⟨nd, rfl⟩⟩
                       refine ⟨_, rfl, ?_⟩
                       have p19 : 0 ≤ ((rd l1 x6_1) : Int) := of_decide_eq_true z2
                       have q19 : ((rd l1 x6_1) : Int) < ((x5_1.length : Int) : Int) := of_decide_eq_true z2
                       obtain ⟨go19, co19, eo19, gb19, gl19, cl19, HG19⟩ := Kd.R_form HO_5.out (by omega)
                       (first | cases eo19 | (injection eo19 with ea_ en_ ec_; (first | subst ea_ | (injection ea_ with ea_; subst ea_)); subst ec_; clear en_))
                       have GB19 := Aside0.mk gb19
                       have GG19 := Aside0.mk HG19
                       clear gb19 gl19 HG19
                       obtain ⟨hx19_0, hf19_0⟩ := Kd.R_celln 0 HO_5.out ((rd l1 x6_1) : Int) p19 q19
                       replace p19 := eq_true p19
                       replace q19 := eq_true q19
                       have HP23 := Kd.R_putn HO_5.out ((rd l1 x6_1) : Int) t1136
                       rw [← Ny1137.out] at HP23
                       have HQ23 := Aside0.mk HP23
                       clear HP23
                       refine hK.out _ _ ⟨(blk_cell BK1128.out 0).trans rfl, (blk_cell BK1128.out 1).trans rfl, (blk_cell BK1128.out 2).trans rfl, (blk_cell BK1128.out 3).trans rfl, ((HB.out.cell (World.block_lt_of_cell? w _ hw1133_0)).trans hw1133_0), ((HB.out.cell (World.block_lt_of_cell? w _ hw1134_0)).trans hw1134_0)⟩ (fun hHeld => ?_)
                       clear hK K
                       refine norm_ (a' := ?_) ?_ ?_
                       rotate_left
                       · show Act.put _ (some 44) _ = _
                         simp only [Act.put, List.setIfInBounds_toArray, List.set_cons_zero, List.set_cons_succ, i64_w, i32_w]
                         rfl
                       refine zP (i := 14) (N := some 45) #[true, true, true, true, true, true, true, true, true, true, true, true, true, true, true, false] (any_of HT_.out (by kernel_rfl)) ?_
                       refine last_ (i := 15) (N := none) #[true, true, true, true, true, true, true, true, true, true, true, true, true, true, true, true] rfl rfl (one_of HT_.out (by kernel_rfl)) (by decide) (fun K hK => ?_)
                       refine skip_ (w1 := ?_) (by rfl) rfl ?_ ?_
                       rotate_left
                       · go_simp
                         rfl
                       refine hK.out _ _ ?_
                       clear hK K
                       refine done_ (done_of HT_.out (by kernel_rfl)) ?_
                       try go_wp2
                       go_roundg k1
                       case measure => have := HK1.out; omega
                       case rel => exact ⟨(y1137), (ji11), (by first | rfl | (simp; done) | (simp only [← hji11] <;> (first | rfl | simp)) | (simp [*]; done)), H', ⟨by have := HK1.out; omega⟩, ⟨by (with_reducible repeat (first | apply Kd.R_alloc | apply Kd.R_drewN | apply Kd.R_drew)); exact HQ23.out⟩, ⟨by (with_reducible repeat (first | refine blk_drewN ?_ _ | refine blk_drew ?_ | refine blk_alloc ?_ _)); refine blk_far ?_ (by have h_ := Kd.R_ne HO_5.out BK1128.out (by decide); intro e_; exact h_ (by rw [e_]; rfl)) _; (with_reducible repeat (first | refine blk_drewN ?_ _ | refine blk_drew ?_ | refine blk_alloc ?_ _)); exact BK1128.out⟩, ⟨by repeat (first | (with_reducible first | exact HB.out | apply below_alloc | apply pw_below_drewN | apply below_drew1 | refine below_set ?_ GB19.out | refine below_set ?_ GE1128.out) | exact HB.out)⟩⟩
                     · rw [if_neg c18] at H
                       exact absurd H (by simp)
                   · rw [if_neg c16] at H
                     exact absurd H (by simp)
                 · rw [if_neg c15] at H
                   exact absurd H (by simp)
               · rw [if_neg c14] at H
                 exact absurd H (by simp)
             · rw [if_neg c13] at H
               exact absurd H (by simp)
           · rw [if_neg c12] at H
             exact absurd H (by simp)
         · rw [if_neg c10] at H
           have c10b0 : decide ((wrap64 (x6_1 + 1)) < (l1.length : Int)) = false := decide_eq_false c10
           clear c10
           by_cases c24 : 0 ≤ x6_1
           · rw [if_pos c24] at H
             have c24b0 : decide (0 ≤ x6_1) = true := decide_eq_true c24
             clear c24
             by_cases c25 : 0 ≤ (rd l1 x6_1)
             · rw [if_pos c25] at H
               have c25b0 := eq_true c25
               have c25b1 : decide (0 ≤ (rd l1 x6_1)) = true := decide_eq_true c25
               clear c25
               by_cases c26 : (rd l1 x6_1) ≤ (l0_0.length : Int)
               · rw [if_pos c26] at H
                 have c26b0 := eq_true c26
                 have c26b1 : decide ((rd l1 x6_1) ≤ (l0_0.length : Int)) = true := decide_eq_true c26
                 clear c26
                 by_cases c27 : (l0_0.length : Int) ≤ (l0_0.length : Int)
                 · rw [if_pos c27] at H
                   have c27b0 := eq_true c27
                   have c27b1 : decide ((l0_0.length : Int) ≤ (l0_0.length : Int)) = true := decide_eq_true c27
                   clear c27
                   replace H := Option.bind_eq_some_iff.mp H
                   obtain ⟨t1141, A280, H⟩ := H
                   replace H : (if (rd l1 x6_1) < (x5_1.length : Int) then (spec_l2From.l0 k1 l1 (x5_1.set ((rd l1 x6_1) : Int).toNat t1141) (wrap64 (x6_1 + 1)) l0_0 l0_1 l0_2 l0_3) else (none)) = some r := H
                   have A28 := Aside0.mk A280
                   clear A280
                   by_cases c29 : (rd l1 x6_1) < (x5_1.length : Int)
                   · rw [if_pos c29] at H
                     have c29b0 : decide ((rd l1 x6_1) < (x5_1.length : Int)) = true := decide_eq_true c29
                     clear c29
                     obtain ⟨y1142, hy1142⟩ : ∃ y_ : List Int, y_ = (x5_1.set ((rd l1 x6_1) : Int).toNat t1141) := ⟨_, rfl⟩
                     replace H : (spec_l2From.l0 k1 l1 y1142 (wrap64 (x6_1 + 1)) l0_0 l0_1 l0_2 l0_3) = some r := by first | (rw [hy1142]; with_reducible exact H) | (have H2_ := (Option.bind_some _ _).symm.trans H; rw [hy1142]; with_reducible exact H2_) | (have H2_ := (Option.bind_some _ _).symm.trans H; with_reducible exact H2_) | with_reducible exact H | (rw [hy1142]; exact H) | exact H
                     have Ny1142 := Aside0.mk hy1142
                     clear hy1142
                     have H' := Aside0.mk H
                     clear H
                     have hcz31_0 : wr.cell? ⟨gb1128, 0, none⟩ = some (.slice A0_0 l0_0.length c0_0) := (blk_cell BK1128.out 0).trans rfl
                     have hcz31_1 : wr.cell? ⟨gb1128, 1, none⟩ = some (.slice A0_1 l0_1.length c0_1) := (blk_cell BK1128.out 1).trans rfl
                     have hcz31_2 : wr.cell? ⟨gb1128, 2, none⟩ = some (.slice A0_2 l0_2.length c0_2) := (blk_cell BK1128.out 2).trans rfl
                     have hcz31_3 : wr.cell? ⟨gb1128, 3, none⟩ = some (.slice A0_3 l0_3.length c0_3) := (blk_cell BK1128.out 3).trans rfl
                     have hfz31_0 := blk_frozen BK1128.out 0
                     have hfz31_1 := blk_frozen BK1128.out 1
                     have hfz31_2 := blk_frozen BK1128.out 2
                     have hfz31_3 := blk_frozen BK1128.out 3
                     try go_wp2
                     have n0_ := Aside0.mk (Kd.R_drew HO_5.out)
                     have n1_ := Aside0.mk (blk_drew BK1128.out)
                     have n2_ := Aside0.mk (below_drew1 HB.out)
                     clear HO_5
                     clear BK1128
                     clear HB
                     have HO_5 := n0_
                     have BK1128 := n1_
                     have HB := n2_
                     clear n0_ n1_ n2_
                     have p1138 : 0 ≤ (x6_1 : Int) := of_decide_eq_true z2
                     have q1138 : x6_1 < (l1.length : Int) := of_decide_eq_true z2
                     obtain ⟨ad1138, e1138, hx1138_0⟩ := Kd.at_int HR1.out x6_1 p1138 q1138
                     have hw1138_0 := hx1138_0
                     cases e1138
                     replace hx1138_0 := (HB.out.cell (World.block_lt_of_cell? w _ hx1138_0)).trans hx1138_0
                     replace p1138 := eq_true p1138
                     replace q1138 := eq_true q1138
                     have p1139 : 0 ≤ (x6_1 : Int) := of_decide_eq_true z2
                     have q1139 : x6_1 < (l1.length : Int) := of_decide_eq_true z2
                     obtain ⟨ad1139, e1139, hx1139_0⟩ := Kd.at_int HR1.out x6_1 p1139 q1139
                     have hw1139_0 := hx1139_0
                     obtain rfl : ad1138 = ad1139 := (by injection e1139)
                     replace hx1139_0 := (HB.out.cell (World.block_lt_of_cell? w _ hx1139_0)).trans hx1139_0
                     replace p1139 := eq_true p1139
                     replace q1139 := eq_true q1139
                     obtain ⟨i033, hi033, _, hsz33, _⟩ := info_parts info3
                     obtain ⟨A33, hcut33, hA33, hC33⟩ := print_mid_of (P := Try.prog) (Value.int .i64) 0 24 3 .i64 .i64 Try.underlying24 hi033 hsz33 A0_0 c0_0 l0_0 (rd l1 x6_1) (l0_0.length : Int) (of_decide_eq_true z2) (by first | omega | exact of_decide_eq_true z2) (of_decide_eq_true z2) HC0_0.out
                     have HR1140 := Aside0.mk (Kd.C_of_reads (h1 := fun _ => rfl) (hA33 _ (Kd.reads_of_C HR0_0.out)))
                     have HC1140 := Aside0.mk hC33
                     clear hA33 hC33 hi033 hsz33
                     refine start_ (n := 16) (S := fun w' => w'.cell? ⟨gb1128, 0, none⟩ = some (.slice A0_0 l0_0.length c0_0) ∧ w'.cell? ⟨gb1128, 1, none⟩ = some (.slice A0_1 l0_1.length c0_1) ∧ w'.cell? ⟨gb1128, 2, none⟩ = some (.slice A0_2 l0_2.length c0_2) ∧ w'.cell? ⟨gb1128, 3, none⟩ = some (.slice A0_3 l0_3.length c0_3) ∧ w'.cell? (ad1138.add (x6_1).toNat) = some (.int .i64 (rd l1 x6_1)) ∧ w'.cell? (ad1138.add (x6_1).toNat) = some (.int .i64 (rd l1 x6_1))) (ds := [15]) #[false, false, false, false, false, false, false, false, false, false, false, false, false, false, false, false] (by kernel_rfl) rfl rfl ⟨(blk_cell BK1128.out 0).trans rfl, (blk_cell BK1128.out 1).trans rfl, (blk_cell BK1128.out 2).trans rfl, (blk_cell BK1128.out 3).trans rfl, ((HB.out.cell (World.block_lt_of_cell? w _ hw1138_0)).trans hw1138_0), ((HB.out.cell (World.block_lt_of_cell? w _ hw1139_0)).trans hw1139_0)⟩ (fun hHeld => ?_); refine with_tabW spec_l2From.tab8 spec_l2From.bits8 (fun HT_ HW_ => ?_)
                     generalize wr.drew = w32 at HO_5 BK1128 HB HR1140 hx1138_0 hx1139_0 hHeld ⊢
                     refine zP (i := 0) (N := some 31) #[true, false, false, false, false, false, false, false, false, false, false, false, false, false, false, false] (any_of HT_.out (by kernel_rfl)) ?_
                     refine zP (i := 1) (N := some 32) #[true, true, false, false, false, false, false, false, false, false, false, false, false, false, false, false] (any_of HT_.out (by kernel_rfl)) ?_
                     refine zP (i := 2) (N := some 33) #[true, true, true, false, false, false, false, false, false, false, false, false, false, false, false, false] (any_of HT_.out (by kernel_rfl)) ?_
                     refine zP (i := 3) (N := some 34) #[true, true, true, true, false, false, false, false, false, false, false, false, false, false, false, false] (any_of HT_.out (by kernel_rfl)) ?_
                     refine zP (i := 5) (N := some 36) #[true, true, true, true, false, true, false, false, false, false, false, false, false, false, false, false] (any_of HT_.out (by kernel_rfl)) ?_
                     refine zP (i := 7) (N := some 38) #[true, true, true, true, false, true, false, true, false, false, false, false, false, false, false, false] (any_of HT_.out (by kernel_rfl)) ?_
                     refine zP (i := 8) (N := some 39) #[true, true, true, true, false, true, false, true, true, false, false, false, false, false, false, false] (any_of HT_.out (by kernel_rfl)) ?_
                     refine zP (i := 9) (N := some 40) #[true, true, true, true, false, true, false, true, true, true, false, false, false, false, false, false] (any_of HT_.out (by kernel_rfl)) ?_
                     refine zP (i := 11) (N := some 42) #[true, true, true, true, false, true, false, true, true, true, false, true, false, false, false, false] (any_of HT_.out (by kernel_rfl)) ?_
                     refine take_ (i := 4) (N := some 35) (v := ?_) (a' := ?_) #[true, true, true, true, true, true, false, true, true, true, false, true, false, false, false, false] rfl rfl (take_ofW HT_.out HW_.out (by kernel_rfl)) (fun _ _ _ h => h) (Or.inl ⟨by rfl, ?_⟩) hHeld ?_ ?_
                     rotate_left
                     · rintro w' ⟨s0, s1, s2, s3, s4, s5⟩
                       go_simp
                       with_reducible rfl
                     rotate_left
                     · simp only [Act.put, List.setIfInBounds_toArray, List.set_cons_zero, List.set_cons_succ, i64_w, i32_w]
                       rfl
                     refine take_ (i := 6) (N := some 37) (v := ?_) (a' := ?_) #[true, true, true, true, true, true, true, true, true, true, false, true, false, false, false, false] rfl rfl (take_ofW HT_.out HW_.out (by kernel_rfl)) (fun _ _ _ h => h) (Or.inl ⟨by rfl, ?_⟩) hHeld ?_ ?_
                     rotate_left
                     · rintro w' ⟨s0, s1, s2, s3, s4, s5⟩
                       go_simp
                       with_reducible rfl
                     rotate_left
                     · simp only [Act.put, List.setIfInBounds_toArray, List.set_cons_zero, List.set_cons_succ, i64_w, i32_w]
                       rfl
                     refine take_ (i := 10) (N := some 41) (v := ?_) (a' := ?_) #[true, true, true, true, true, true, true, true, true, true, true, true, false, false, false, false] rfl rfl (take_ofW HT_.out HW_.out (by kernel_rfl)) (fun _ _ _ h => h) (Or.inl ⟨by rfl, ?_⟩) hHeld ?_ ?_
                     rotate_left
                     · rintro w' ⟨s0, s1, s2, s3, s4, s5⟩
                       go_simp
                       with_reducible rfl
                     rotate_left
                     · simp only [Act.put, List.setIfInBounds_toArray, List.set_cons_zero, List.set_cons_succ, i64_w, i32_w]
                       rfl
                     refine zP (i := 12) (N := some 43) #[true, true, true, true, true, true, true, true, true, true, true, true, true, false, false, false] (any_of HT_.out (by kernel_rfl)) ?_
                     refine one_ (i := 13) (N := some 44) #[true, true, true, true, true, true, true, true, true, true, true, true, true, true, false, false] rfl rfl (one_of HT_.out (by kernel_rfl)) (by decide) (fun K hK => ?_)
                     refine goes_ Try.func115 (by kernel_rfl) rfl #[.slice A33 ((l0_0.take ((l0_0.length : Int) : Int).toNat).drop ((rd l1 x6_1) : Int).toNat).length (c0_0 - (rd l1 x6_1).toNat)] (by rfl) rfl rfl (by (try simp only [List.map_toArray, List.map_cons, List.map_nil]); first | done | (rw [show ((l0_0.take ((l0_0.length : Int) : Int).toNat).drop ((rd l1 x6_1) : Int).toNat).length = ((l0_0.length : Int).toNat - (rd l1 x6_1).toNat) from (by rw [List.length_drop, List.length_take]; have h_ : ((l0_0.length : Int) : Int) ≤ (l0_0.length : Int) := of_decide_eq_true z2; omega)] <;> rfl) | rfl | (simp only [List.length_drop, List.length_take]; rfl)) ?_
                     with_reducible refine (spec_l2Sum.calls k1 _ _ ((l0_0.take ((l0_0.length : Int) : Int).toNat).drop ((rd l1 x6_1) : Int).toNat) t1141 _ ?side1 ?side2 A28.out).mono ?_
                     (case side1 => exact zC (Kd.C_below HR1140.out HB.out))
                     (case side2 => exact HC1140.out)
                     rintro e w' ⟨rfl, ⟨nd, rfl⟩⟩
                     refine ⟨_, rfl, ?_⟩
                     have p30 : 0 ≤ ((rd l1 x6_1) : Int) := of_decide_eq_true z2
                     have q30 : ((rd l1 x6_1) : Int) < ((x5_1.length : Int) : Int) := of_decide_eq_true z2
                     obtain ⟨go30, co30, eo30, gb30, gl30, cl30, HG30⟩ := Kd.R_form HO_5.out (by omega)
                     (first | cases eo30 | (injection eo30 with ea_ en_ ec_; (first | subst ea_ | (injection ea_ with ea_; subst ea_)); subst ec_; clear en_))
                     have GB30 := Aside0.mk gb30
                     have GG30 := Aside0.mk HG30
                     clear gb30 gl30 HG30
                     obtain ⟨hx30_0, hf30_0⟩ := Kd.R_celln 0 HO_5.out ((rd l1 x6_1) : Int) p30 q30
                     replace p30 := eq_true p30
                     replace q30 := eq_true q30
                     have HP34 := Kd.R_putn HO_5.out ((rd l1 x6_1) : Int) t1141
                     rw [← Ny1142.out] at HP34
                     have HQ34 := Aside0.mk HP34
                     clear HP34
                     refine hK.out _ _ ⟨(blk_cell BK1128.out 0).trans rfl, (blk_cell BK1128.out 1).trans rfl, (blk_cell BK1128.out 2).trans rfl, (blk_cell BK1128.out 3).trans rfl, ((HB.out.cell (World.block_lt_of_cell? w _ hw1138_0)).trans hw1138_0), ((HB.out.cell (World.block_lt_of_cell? w _ hw1139_0)).trans hw1139_0)⟩ (fun hHeld => ?_)
                     clear hK K
                     refine norm_ (a' := ?_) ?_ ?_
                     rotate_left
                     · show Act.put _ (some 44) _ = _
                       simp only [Act.put, List.setIfInBounds_toArray, List.set_cons_zero, List.set_cons_succ, i64_w, i32_w]
                       rfl
                     refine zP (i := 14) (N := some 45) #[true, true, true, true, true, true, true, true, true, true, true, true, true, true, true, false] (any_of HT_.out (by kernel_rfl)) ?_
                     refine last_ (i := 15) (N := none) #[true, true, true, true, true, true, true, true, true, true, true, true, true, true, true, true] rfl rfl (one_of HT_.out (by kernel_rfl)) (by decide) (fun K hK => ?_)
                     refine skip_ (w1 := ?_) (by rfl) rfl ?_ ?_
                     rotate_left
                     · go_simp
                       rfl
                     refine hK.out _ _ ?_
                     clear hK K
                     refine done_ (done_of HT_.out (by kernel_rfl)) ?_
                     try go_wp2
                     go_roundg k1
                     case measure => have := HK1.out; omega
                     case rel => exact ⟨(y1142), (wrap64 (x6_1 + 1)), z3, H', ⟨by have := HK1.out; omega⟩, ⟨by (with_reducible repeat (first | apply Kd.R_alloc | apply Kd.R_drewN | apply Kd.R_drew)); exact HQ34.out⟩, ⟨by (with_reducible repeat (first | refine blk_drewN ?_ _ | refine blk_drew ?_ | refine blk_alloc ?_ _)); refine blk_far ?_ (by have h_ := Kd.R_ne HO_5.out BK1128.out (by decide); intro e_; exact h_ (by rw [e_]; rfl)) _; (with_reducible repeat (first | refine blk_drewN ?_ _ | refine blk_drew ?_ | refine blk_alloc ?_ _)); exact BK1128.out⟩, ⟨by repeat (first | (with_reducible first | exact HB.out | apply below_alloc | apply pw_below_drewN | apply below_drew1 | refine below_set ?_ GB30.out | refine below_set ?_ GE1128.out) | exact HB.out)⟩⟩
                   · rw [if_neg c29] at H
                     exact absurd H (by simp)
                 · rw [if_neg c27] at H
                   exact absurd H (by simp)
               · rw [if_neg c26] at H
                 exact absurd H (by simp)
             · rw [if_neg c25] at H
               exact absurd H (by simp)
           · rw [if_neg c24] at H
             exact absurd H (by simp)
       · rw [if_neg c9] at H
         have c9b0 : decide (x6_1 < (l1.length : Int)) = false := decide_eq_false c9
         clear c9
         obtain rfl := Option.some.inj H
         go_wp2
         go_ret
         exact ⟨_, by first | rfl | (simp [errW_none, errW_some] <;> rfl) | (simp [*, errW_none, errW_some] <;> rfl), by (with_reducible repeat (first | apply Kd.R_alloc | apply Kd.R_drewN | apply Kd.R_drew)); exact HO_5.out, by repeat (first | (with_reducible first | exact HB.out | apply below_alloc | apply pw_below_drewN | apply below_drew1 | refine below_set ?_ GE1128.out) | exact HB.out)⟩
   · rw [if_neg c4] at H
     exact absurd H (by simp)
 · rw [if_neg c3] at H
   exact absurd H (by simp)
end Go.Proofs.Ythlmmcmpllgflaa.P
namespace Go.Proofs.Ythlmmcmpllgflaa.P
open Go.RowKit Go.Proofs.YthlmmcmpllgflaaW.PrintWords Go.Proofs.YthlmmcmpllgflaaW.PrintLast Go.Proofs.YthlmmcmpllgflaaW.PrintMore
attribute [local go_sem] max2_int min2_int max_two min_two max_three min_three max_four min_four
set_option linter.unusedVariables false
set_option linter.unusedSimpArgs false
def spec_l2Bits.l0 : Nat → Int → Int → List Int → Int → Option (List Int)
 | 0, _, _, _, _ => none
 | k + 1, x0, x1, x5, x6 => if x6 < x0 then (if 0 ≤ x6 then (if (Go.bits .and .i64 (shr .i64 x1 x6) 1) = 1 then (if x5.length < 17592186044416 then (spec_l2Bits.l0 k x0 x1 (x5 ++ [x6]) (wrap64 (x6 + 1))) else (none)) else (spec_l2Bits.l0 k x0 x1 x5 (wrap64 (x6 + 1)))) else (none)) else (some x5)
def spec_l2Bits.f (k : Nat) (a0 : Int) (a1 : Int) : Option (List Int) := spec_l2Bits.l0 k a0 a1 (([] : List Int)) 0
set_option maxHeartbeats 8000000 in
set_option maxRecDepth 100000 in
theorem spec_l2Bits.calls (k : Nat) (a0 : Int) (a1 : Int) (r : List Int) (w : World) (h : spec_l2Bits.f k a0 a1 = some r) :
 Calls Try.prog 95 #[.int .i64 a0, .int .i64 a1] w fun e w' => ∃ v0_ : Value, e = .returned (v0_) ∧ Kd.R (Kd.int .i64) 3 w' w.heap.size (fun _ => True) v0_ r ∧ Below w.heap.size w w' := by
 have HB := Aside0.mk (Below.refl w.heap.size w)
 have H : (spec_l2Bits.l0 k a0 a1 (([] : List Int)) 0) = some r := h
 clear h
 obtain ⟨y205, hy205⟩ : ∃ y_ : List Int, y_ = (([] : List Int)) := ⟨_, rfl⟩
 replace H : (spec_l2Bits.l0 k a0 a1 y205 0) = some r := by first | (rw [hy205]; with_reducible exact H) | (have H2_ := (Option.bind_some _ _).symm.trans H; rw [hy205]; with_reducible exact H2_) | (have H2_ := (Option.bind_some _ _).symm.trans H; with_reducible exact H2_) | with_reducible exact H | (rw [hy205]; exact H) | exact H
 have Ny205 := Aside0.mk hy205
 clear hy205
 have H' := Aside0.mk H
 clear H
 go_enter Try.func95, Try.ntmps95
 go_wp2_with (first | ((with_reducible refine gate_dst (N := 7) rfl ?_); refine Kd.R_lit (Kd.int .i64) _ 3 ?hg (N := 7) ?hd (xs := ([] : List Int)) (inner := []) (ok := fun _ => True) (okp := fun _ => True) ?hr ?hp (fun _ hk => hk) trivial (Below.refl _ _) (Nat.le_refl _) (by simp) ?_; (case hd => rfl); (case hg => rfl); (case hr => first | (go_simp; done) | (go_simp; rfl)); (case hp => exact (Reps.none _ _)); intro v206 w3 ho4 hb hg_ hnew_; clear hg_ hnew_; (first | rw [← Ny205.out] at ho4 | (simp only [Int.reduceToNat] at ho4; rw [← Ny205.out] at ho4)); have n0_ := Aside0.mk (Kd.R_lower ho4 (below_size zH0)); have n1_ := Aside0.mk (below_step zH0 hb); clear HB; have HO207 := n0_; have HB := n1_; clear n0_ n1_; clear hb ho4))
 go_loopg [5, 6] k (fun kq v5 v6 w' => ∃ (x5_1 : List Int) (x6_1 : Int), v6 = .int .i64 x6_1 ∧ Aside0 (spec_l2Bits.l0 kq a0 a1 x5_1 x6_1 = some r) ∧ Aside0 (kq ≤ k) ∧ Aside0 (Kd.R (Kd.int .i64) 3 w' w.heap.size (fun _ => True) v5 x5_1) ∧ Aside0 (Below w.heap.size w w'))
 case atStart => exact ⟨(y205), (0), z3, H', ⟨Nat.le_refl _⟩, ⟨by (with_reducible repeat (first | apply Kd.R_alloc | apply Kd.R_drewN | apply Kd.R_drew)); exact HO207.out⟩, ⟨by repeat (first | (with_reducible first | exact HB.out | apply below_alloc | apply pw_below_drewN | apply below_drew1) | exact HB.out)⟩⟩
 case round =>
  clear H'
  try clear p2
  obtain ⟨x5_1, x6_1, rfl, HA, HK1, HO_5, HB⟩ := hrel
  cases gk with
  | zero => exact absurd HA.out (by simp [spec_l2Bits.l0])
  | succ k1 =>
   have H := HA.out
   clear HA
   simp only [spec_l2Bits.l0] at H
   by_cases c5 : x6_1 < a0
   · rw [if_pos c5] at H
     have c5b0 : decide (x6_1 < a0) = true := decide_eq_true c5
     clear c5
     by_cases c6 : 0 ≤ x6_1
     · rw [if_pos c6] at H
       have c6b0 := eq_true c6
       have c6b1 : decide (0 ≤ x6_1) = true := decide_eq_true c6
       clear c6
       obtain ⟨ji7, hji7⟩ : ∃ j_ : Int, (shr .i64 a1 x6_1) = j_ := ⟨_, rfl⟩
       replace H : (if (Go.bits .and .i64 (ji7) 1) = 1 then (if x5_1.length < 17592186044416 then (spec_l2Bits.l0 k1 a0 a1 (x5_1 ++ [x6_1]) (wrap64 (x6_1 + 1))) else (none)) else (spec_l2Bits.l0 k1 a0 a1 x5_1 (wrap64 (x6_1 + 1)))) = some r := by first | (rw [hji7] at H; exact H) | (simp only [hji7] at H ⊢; exact H)
       have hji7_ : (a1 / 2 ^ min x6_1.toNat 64) = ji7 := hji7
       have hji7z : x6_1 ≤ 64 → (a1 / 2 ^ x6_1.toNat) = ji7 := shr_small hji7
       by_cases c8 : (Go.bits .and .i64 (ji7) 1) = 1
       · rw [if_pos c8] at H
         have c8b0 : ((Go.bits .and .i64 (ji7) 1) == 1) = true := beq_iff_eq.mpr c8
         have c8b1 : ((Go.bits .and .i64 (ji7) 1) != 1) = false := bne_eq_false_iff_eq.mpr c8
         clear c8
         by_cases c9 : x5_1.length < 17592186044416
         · rw [if_pos c9] at H
           have LMc9 := Aside0.mk c9
           clear c9
           obtain ⟨y208, hy208⟩ : ∃ y_ : List Int, y_ = (x5_1 ++ [x6_1]) := ⟨_, rfl⟩
           replace H : (spec_l2Bits.l0 k1 a0 a1 y208 (wrap64 (x6_1 + 1))) = some r := by first | (rw [hy208]; with_reducible exact H) | (have H2_ := (Option.bind_some _ _).symm.trans H; rw [hy208]; with_reducible exact H2_) | (have H2_ := (Option.bind_some _ _).symm.trans H; with_reducible exact H2_) | with_reducible exact H | (rw [hy208]; exact H) | exact H
           have Ny208 := Aside0.mk hy208
           clear hy208
           have H' := Aside0.mk H
           clear H
           go_wp2_with (first | ((with_reducible refine gate_builtin (b := .append) (xs := #[.tmp 18, .tmp 20]) rfl ?_); at_builtin; refine Kd.R_append (Kd.int .i64) (w0 := w) w.heap.size rfl (.tmp 18) (.tmp 20) 24 3 (.int .i64 0) 8 rfl Try.underlying24 info3 rfl (by decide) (by omega) u5 x5_1 x6_1 [.int .i64 x6_1] (fun _ => True) (fun _ => False) rfl rfl ?aP (fun _ hk => hk.elim) ?aF ?aO ?aB ?aS ?aL ?_; (case aP => exact rfl); (case aB => exact zH0); (case aF => exact (fun _ _ => trivial)); (case aO => exact (zR HO_5.out)); (case aS => exact (below_size zH0)); (case aL => have := LMc9.out; omega); intro v209 w10 ho hb hg hat; rw [← Ny208.out] at ho; have n0_ := Aside0.mk (hb); have n1_ := Aside0.mk (ho); clear HB; clear HO_5; have HB := n0_; have HO210 := n1_; clear n0_ n1_; clear ho hb hg hat))
           go_roundg k1
           case measure => have := HK1.out; omega
           case rel => exact ⟨(y208), (wrap64 (x6_1 + 1)), z3, H', ⟨by have := HK1.out; omega⟩, ⟨by (with_reducible repeat (first | apply Kd.R_alloc | apply Kd.R_drewN | apply Kd.R_drew)); exact HO210.out⟩, ⟨by repeat (first | (with_reducible first | exact HB.out | apply below_alloc | apply pw_below_drewN | apply below_drew1) | exact HB.out)⟩⟩
         · rw [if_neg c9] at H
           exact absurd H (by simp)
       · rw [if_neg c8] at H
         have c8b0 : ((Go.bits .and .i64 (ji7) 1) == 1) = false := beq_eq_false_iff_ne.mpr c8
         have c8b1 : ((Go.bits .and .i64 (ji7) 1) != 1) = true := bne_iff_ne.mpr c8
         have H' := Aside0.mk H
         clear H
         go_wp2
         go_roundg k1
         case measure => have := HK1.out; omega
         case rel => exact ⟨(x5_1), (wrap64 (x6_1 + 1)), z3, H', ⟨by have := HK1.out; omega⟩, ⟨by (with_reducible repeat (first | apply Kd.R_alloc | apply Kd.R_drewN | apply Kd.R_drew)); exact HO_5.out⟩, ⟨by repeat (first | (with_reducible first | exact HB.out | apply below_alloc | apply pw_below_drewN | apply below_drew1) | exact HB.out)⟩⟩
     · rw [if_neg c6] at H
       exact absurd H (by simp)
   · rw [if_neg c5] at H
     have c5b0 : decide (x6_1 < a0) = false := decide_eq_false c5
     clear c5
     obtain rfl := Option.some.inj H
     go_wp2
     go_ret
     exact ⟨_, by first | rfl | (simp [errW_none, errW_some] <;> rfl) | (simp [*, errW_none, errW_some] <;> rfl), by (with_reducible repeat (first | apply Kd.R_alloc | apply Kd.R_drewN | apply Kd.R_drew)); exact HO_5.out, by repeat (first | (with_reducible first | exact HB.out | apply below_alloc | apply pw_below_drewN | apply below_drew1) | exact HB.out)⟩
end Go.Proofs.Ythlmmcmpllgflaa.P
namespace Go.Proofs.Ythlmmcmpllgflaa.P
open Go.RowKit Go.Proofs.YthlmmcmpllgflaaW.PrintWords Go.Proofs.YthlmmcmpllgflaaW.PrintLast Go.Proofs.YthlmmcmpllgflaaW.PrintMore
attribute [local go_sem] max2_int min2_int max_two min_two max_three min_three max_four min_four
set_option linter.unusedVariables false
set_option linter.unusedSimpArgs false
mutual
def spec_l2Best.l0 : Nat → List Int → Int → Int → List Int → List Int → List Int → List Int → Option (List Int)
 | 0, _, _, _, _, _, _, _ => none
 | k + 1, x3, x4, x5, x1181000, x1181001, x1181002, x1181003 => if x5 < (shl .i64 1 (x1181000.length : Int)) then ((spec_l2Bits.f k (x1181000.length : Int) x5).bind fun t1184 => ((spec_l2Covers.f k x1181000 x1181001 x1181002 x1181003 t1184).bind fun t1187 => (if t1187 = true then ((spec_l2From.f k x1181000 x1181001 x1181002 x1181003 t1184).bind fun t1188 => ((spec_l2Cost.f k x1181000 x1181001 x1181002 x1181003 t1188).bind fun t1191 => (if x4 < 0 then (spec_l2Best.j1 k x3 x4 x5 t1184 t1191 true x1181000 x1181001 x1181002 x1181003) else (if t1191 < x4 then (spec_l2Best.j1 k x3 x4 x5 t1184 t1191 true x1181000 x1181001 x1181002 x1181003) else (if t1191 = x4 then ((spec_l2Before.f k t1184 x3).bind fun t1192 => (spec_l2Best.j1 k x3 x4 x5 t1184 t1191 t1192 x1181000 x1181001 x1181002 x1181003)) else (spec_l2Best.j1 k x3 x4 x5 t1184 t1191 false x1181000 x1181001 x1181002 x1181003)))))) else (spec_l2Best.l0 k x3 x4 (wrap64 (x5 + 1)) x1181000 x1181001 x1181002 x1181003)))) else (some x3)
def spec_l2Best.j1 : Nat → List Int → Int → Int → List Int → Int → Bool → List Int → List Int → List Int → List Int → Option (List Int)
 | 0, _, _, _, _, _, _, _, _, _, _ => none
 | k + 1, x3, x4, x5, x6, x7, x47, x1181000, x1181001, x1181002, x1181003 => if x47 = true then (spec_l2Best.l0 k x6 x7 (wrap64 (x5 + 1)) x1181000 x1181001 x1181002 x1181003) else (spec_l2Best.l0 k x3 x4 (wrap64 (x5 + 1)) x1181000 x1181001 x1181002 x1181003)
end
def spec_l2Best.f (k : Nat) (l0_0 : List Int) (l0_1 : List Int) (l0_2 : List Int) (l0_3 : List Int) : Option (List Int) := spec_l2Best.l0 k (([] : List Int)) (-1) 0 l0_0 l0_1 l0_2 l0_3
set_option maxHeartbeats 8000000 in
set_option maxRecDepth 100000 in
theorem spec_l2Best.calls (k : Nat) (A0_0 : Option Addr) (c0_0 : Nat) (l0_0 : List Int) (A0_1 : Option Addr) (c0_1 : Nat) (l0_1 : List Int) (A0_2 : Option Addr) (c0_2 : Nat) (l0_2 : List Int) (A0_3 : Option Addr) (c0_3 : Nat) (l0_3 : List Int) (r : List Int) (w : World) (hr0_0 : Kd.C (Kd.int .i64) w A0_0 l0_0.length l0_0) (hc0_0 : l0_0.length ≤ c0_0) (hr0_1 : Kd.C (Kd.int .i64) w A0_1 l0_1.length l0_1) (hc0_1 : l0_1.length ≤ c0_1) (hr0_2 : Kd.C (Kd.int .i64) w A0_2 l0_2.length l0_2) (hc0_2 : l0_2.length ≤ c0_2) (hr0_3 : Kd.C (Kd.int .i64) w A0_3 l0_3.length l0_3) (hc0_3 : l0_3.length ≤ c0_3) (h : spec_l2Best.f k l0_0 l0_1 l0_2 l0_3 = some r) :
 Calls Try.prog 75 #[.agg #[.slice A0_0 l0_0.length c0_0, .slice A0_1 l0_1.length c0_1, .slice A0_2 l0_2.length c0_2, .slice A0_3 l0_3.length c0_3]] w fun e w' => ∃ v0_ : Value, e = .returned (v0_) ∧ Kd.R (Kd.int .i64) 3 w' w.heap.size (fun _ => True) v0_ r ∧ Below w.heap.size w w' := by
 have hu49 := Try.underlying49
 have HR0_0 := Aside0.mk hr0_0
 have HC0_0 := Aside0.mk hc0_0
 clear hr0_0 hc0_0
 have HR0_1 := Aside0.mk hr0_1
 have HC0_1 := Aside0.mk hc0_1
 clear hr0_1 hc0_1
 have HR0_2 := Aside0.mk hr0_2
 have HC0_2 := Aside0.mk hc0_2
 clear hr0_2 hc0_2
 have HR0_3 := Aside0.mk hr0_3
 have HC0_3 := Aside0.mk hc0_3
 clear hr0_3 hc0_3
 have HB := Aside0.mk (Below.refl w.heap.size w)
 have H : (spec_l2Best.l0 k (([] : List Int)) (-1) 0 l0_0 l0_1 l0_2 l0_3) = some r := h
 clear h
 obtain ⟨y1181, hy1181⟩ : ∃ y_ : List Int, y_ = (([] : List Int)) := ⟨_, rfl⟩
 replace H : (spec_l2Best.l0 k y1181 (-1) 0 l0_0 l0_1 l0_2 l0_3) = some r := by first | (rw [hy1181]; with_reducible exact H) | (have H2_ := (Option.bind_some _ _).symm.trans H; rw [hy1181]; with_reducible exact H2_) | (have H2_ := (Option.bind_some _ _).symm.trans H; with_reducible exact H2_) | with_reducible exact H | (rw [hy1181]; exact H) | exact H
 have Ny1181 := Aside0.mk hy1181
 clear hy1181
 have H' := Aside0.mk H
 clear H
 go_enter Try.func75, Try.ntmps75
 go_wp2_with (first | ((with_reducible refine gate_dst (N := 1) rfl ?_); refine box_event ?hg (N := 1) ?hd (cs := #[.slice A0_0 l0_0.length c0_0, .slice A0_1 l0_1.length c0_1, .slice A0_2 l0_2.length c0_2, .slice A0_3 l0_3.length c0_3]) (t := 49) ?hr ?_; (case hd => rfl); (case hg => rfl); (case hr => first | (go_simp; done) | (go_simp; rfl)); intro gb1180 hg w2 hbox hb; have n0_ := Aside0.mk (below_step zH0 hb); have n1_ := Aside0.mk (hbox); have n2_ := Aside0.mk ((z6 : w.heap.size ≤ gb1180)); have n3_ := Aside0.mk ((z6 : w.heap.size ≤ gb1180)); clear HB; have HB := n0_; have BK1180 := n1_; have GW1180 := n2_; have GE1180 := n3_; clear n0_ n1_ n2_ n3_; clear hb hbox hg) | ((with_reducible refine gate_dst (N := 8) rfl ?_); refine Kd.R_lit (Kd.int .i64) _ 3 ?hg (N := 8) ?hd (xs := ([] : List Int)) (inner := []) (ok := fun _ => True) (okp := fun _ => True) ?hr ?hp (fun _ hk => hk) trivial (Below.refl _ _) (Nat.le_refl _) (by simp) ?_; (case hd => rfl); (case hg => rfl); (case hr => first | (go_simp; done) | (go_simp; rfl)); (case hp => exact (Reps.none _ _)); intro v1182 w3 ho4 hb hg_ hnew_; clear hg_ hnew_; (first | rw [← Ny1181.out] at ho4 | (simp only [Int.reduceToNat] at ho4; rw [← Ny1181.out] at ho4)); have n0_ := Aside0.mk (Kd.R_lower ho4 (below_size (zH1 GE1180.out))); have n1_ := Aside0.mk (blk_below (g := gb1180) (o := .cells #[.slice A0_0 l0_0.length c0_0, .slice A0_1 l0_1.length c0_1, .slice A0_2 l0_2.length c0_2, .slice A0_3 l0_3.length c0_3] 49 (0, 0)) (zB BK1180.out) hb); have n2_ := Aside0.mk (below_step (zH1 GE1180.out) hb); clear BK1180; clear HB; have HO1183 := n0_; have BK1180 := n1_; have HB := n2_; clear n0_ n1_ n2_; clear hb ho4))
 go_loopg [3, 4, 5] k (fun kq v3 v4 v5 w' => ∃ (x3_1 : List Int) (x4_1 : Int) (x5_1 : Int), v4 = .int .i64 x4_1 ∧ v5 = .int .i64 x5_1 ∧ Aside0 (spec_l2Best.l0 kq x3_1 x4_1 x5_1 l0_0 l0_1 l0_2 l0_3 = some r) ∧ Aside0 (kq ≤ k) ∧ Aside0 (Kd.R (Kd.int .i64) 3 w' w.heap.size (fun _ => True) v3 x3_1) ∧ Aside0 (w'.heap[gb1180]? = some (.cells #[(.slice A0_0 l0_0.length c0_0), (.slice A0_1 l0_1.length c0_1), (.slice A0_2 l0_2.length c0_2), (.slice A0_3 l0_3.length c0_3)] 49 (0, 0))) ∧ Aside0 (Below w.heap.size w w'))
 case atStart => exact ⟨(y1181), ((-1)), (0), z3, z3, H', ⟨Nat.le_refl _⟩, ⟨by (with_reducible repeat (first | apply Kd.R_alloc | apply Kd.R_drewN | apply Kd.R_drew)); exact HO1183.out⟩, ⟨by (with_reducible repeat (first | refine blk_drewN ?_ _ | refine blk_drew ?_ | refine blk_alloc ?_ _)); exact BK1180.out⟩, ⟨by repeat (first | (with_reducible first | exact HB.out | apply below_alloc | apply pw_below_drewN | apply below_drew1 | refine below_set ?_ GE1180.out) | exact HB.out)⟩⟩
 case round =>
  clear H'
  try clear p2
  obtain ⟨x3_1, x4_1, x5_1, rfl, rfl, HA, HK1, HO_3, BK1180, HB⟩ := hrel
  cases gk with
  | zero => exact absurd HA.out (by simp [spec_l2Best.l0])
  | succ k1 =>
   have H := HA.out
   clear HA
   simp only [spec_l2Best.l0] at H
   obtain ⟨ji5, hji5⟩ : ∃ j_ : Int, (shl .i64 1 (l0_0.length : Int)) = j_ := ⟨_, rfl⟩
   replace H : (if x5_1 < (ji5) then ((spec_l2Bits.f k1 (l0_0.length : Int) x5_1).bind fun t1184 => ((spec_l2Covers.f k1 l0_0 l0_1 l0_2 l0_3 t1184).bind fun t1187 => (if t1187 = true then ((spec_l2From.f k1 l0_0 l0_1 l0_2 l0_3 t1184).bind fun t1188 => ((spec_l2Cost.f k1 l0_0 l0_1 l0_2 l0_3 t1188).bind fun t1191 => (if x4_1 < 0 then (spec_l2Best.j1 k1 x3_1 x4_1 x5_1 t1184 t1191 true l0_0 l0_1 l0_2 l0_3) else (if t1191 < x4_1 then (spec_l2Best.j1 k1 x3_1 x4_1 x5_1 t1184 t1191 true l0_0 l0_1 l0_2 l0_3) else (if t1191 = x4_1 then ((spec_l2Before.f k1 t1184 x3_1).bind fun t1192 => (spec_l2Best.j1 k1 x3_1 x4_1 x5_1 t1184 t1191 t1192 l0_0 l0_1 l0_2 l0_3)) else (spec_l2Best.j1 k1 x3_1 x4_1 x5_1 t1184 t1191 false l0_0 l0_1 l0_2 l0_3)))))) else (spec_l2Best.l0 k1 x3_1 x4_1 (wrap64 (x5_1 + 1)) l0_0 l0_1 l0_2 l0_3)))) else (some x3_1)) = some r := by first | (rw [hji5] at H; exact H) | (simp only [hji5] at H ⊢; exact H)
   have hji5_ : (IntKind.i64.wrap (1 * 2 ^ min (l0_0.length : Int).toNat 64)) = ji5 := hji5
   have hji5z : (l0_0.length : Int) ≤ 64 → (IntKind.i64.wrap (1 * 2 ^ (l0_0.length : Int).toNat)) = ji5 := shl_small hji5
   have hji5p : (IntKind.i64.wrap (1 * 2 ^ min l0_0.length 64)) = ji5 := hji5_
   have hji5q : (l0_0.length : Int) ≤ 64 → (IntKind.i64.wrap (1 * 2 ^ l0_0.length)) = ji5 := hji5z
   have hji5r : (IntKind.i64.wrap (2 ^ min l0_0.length 64)) = ji5 := by have h_ := hji5p; rw [Int.one_mul] at h_; exact h_
   have hji5s : (l0_0.length : Int) ≤ 64 → (IntKind.i64.wrap (2 ^ l0_0.length)) = ji5 := fun hle_ => by have h_ := hji5q hle_; rw [Int.one_mul] at h_; exact h_
   have hji5u : (IntKind.i64.wrap (2 ^ min (l0_0.length : Int).toNat 64)) = ji5 := by have h_ := hji5_; rw [Int.one_mul] at h_; exact h_
   have hji5v : (l0_0.length : Int) ≤ 64 → (IntKind.i64.wrap (2 ^ (l0_0.length : Int).toNat)) = ji5 := fun hle_ => by have h_ := hji5z hle_; rw [Int.one_mul] at h_; exact h_
   have hji5y : (wrap64 (1 * 2 ^ min (l0_0.length : Int).toNat 64)) = ji5 := (i64_w _).symm.trans hji5_
   have hji5x : (l0_0.length : Int) ≤ 64 → (wrap64 (1 * 2 ^ (l0_0.length : Int).toNat)) = ji5 := fun h_ => (i64_w _).symm.trans (hji5z h_)
   by_cases c6 : x5_1 < (ji5)
   · rw [if_pos c6] at H
     have c6b0 : decide (x5_1 < (ji5)) = true := decide_eq_true c6
     clear c6
     replace H := Option.bind_eq_some_iff.mp H
     obtain ⟨t1184, A70, H⟩ := H
     replace H : ((spec_l2Covers.f k1 l0_0 l0_1 l0_2 l0_3 t1184).bind fun t1187 => (if t1187 = true then ((spec_l2From.f k1 l0_0 l0_1 l0_2 l0_3 t1184).bind fun t1188 => ((spec_l2Cost.f k1 l0_0 l0_1 l0_2 l0_3 t1188).bind fun t1191 => (if x4_1 < 0 then (spec_l2Best.j1 k1 x3_1 x4_1 x5_1 t1184 t1191 true l0_0 l0_1 l0_2 l0_3) else (if t1191 < x4_1 then (spec_l2Best.j1 k1 x3_1 x4_1 x5_1 t1184 t1191 true l0_0 l0_1 l0_2 l0_3) else (if t1191 = x4_1 then ((spec_l2Before.f k1 t1184 x3_1).bind fun t1192 => (spec_l2Best.j1 k1 x3_1 x4_1 x5_1 t1184 t1191 t1192 l0_0 l0_1 l0_2 l0_3)) else (spec_l2Best.j1 k1 x3_1 x4_1 x5_1 t1184 t1191 false l0_0 l0_1 l0_2 l0_3)))))) else (spec_l2Best.l0 k1 x3_1 x4_1 (wrap64 (x5_1 + 1)) l0_0 l0_1 l0_2 l0_3))) = some r := H
     have A7 := Aside0.mk A70
     clear A70
     replace H := Option.bind_eq_some_iff.mp H
     obtain ⟨t1187, A80, H⟩ := H
     replace H : (if t1187 = true then ((spec_l2From.f k1 l0_0 l0_1 l0_2 l0_3 t1184).bind fun t1188 => ((spec_l2Cost.f k1 l0_0 l0_1 l0_2 l0_3 t1188).bind fun t1191 => (if x4_1 < 0 then (spec_l2Best.j1 k1 x3_1 x4_1 x5_1 t1184 t1191 true l0_0 l0_1 l0_2 l0_3) else (if t1191 < x4_1 then (spec_l2Best.j1 k1 x3_1 x4_1 x5_1 t1184 t1191 true l0_0 l0_1 l0_2 l0_3) else (if t1191 = x4_1 then ((spec_l2Before.f k1 t1184 x3_1).bind fun t1192 => (spec_l2Best.j1 k1 x3_1 x4_1 x5_1 t1184 t1191 t1192 l0_0 l0_1 l0_2 l0_3)) else (spec_l2Best.j1 k1 x3_1 x4_1 x5_1 t1184 t1191 false l0_0 l0_1 l0_2 l0_3)))))) else (spec_l2Best.l0 k1 x3_1 x4_1 (wrap64 (x5_1 + 1)) l0_0 l0_1 l0_2 l0_3)) = some r := H
     have A8 := Aside0.mk A80
     clear A80
     by_cases c9 : t1187 = true
     · subst c9
       have H1 : ((spec_l2From.f k1 l0_0 l0_1 l0_2 l0_3 t1184).bind fun t1188 => ((spec_l2Cost.f k1 l0_0 l0_1 l0_2 l0_3 t1188).bind fun t1191 => (if x4_1 < 0 then (spec_l2Best.j1 k1 x3_1 x4_1 x5_1 t1184 t1191 true l0_0 l0_1 l0_2 l0_3) else (if t1191 < x4_1 then (spec_l2Best.j1 k1 x3_1 x4_1 x5_1 t1184 t1191 true l0_0 l0_1 l0_2 l0_3) else (if t1191 = x4_1 then ((spec_l2Before.f k1 t1184 x3_1).bind fun t1192 => (spec_l2Best.j1 k1 x3_1 x4_1 x5_1 t1184 t1191 t1192 l0_0 l0_1 l0_2 l0_3)) else (spec_l2Best.j1 k1 x3_1 x4_1 x5_1 t1184 t1191 false l0_0 l0_1 l0_2 l0_3)))))) = some r := by rw [if_pos rfl] at H; exact H
       clear H
       have H := H1
       clear H1
       replace H := Option.bind_eq_some_iff.mp H
       obtain ⟨t1188, A100, H⟩ := H
       replace H : ((spec_l2Cost.f k1 l0_0 l0_1 l0_2 l0_3 t1188).bind fun t1191 => (if x4_1 < 0 then (spec_l2Best.j1 k1 x3_1 x4_1 x5_1 t1184 t1191 true l0_0 l0_1 l0_2 l0_3) else (if t1191 < x4_1 then (spec_l2Best.j1 k1 x3_1 x4_1 x5_1 t1184 t1191 true l0_0 l0_1 l0_2 l0_3) else (if t1191 = x4_1 then ((spec_l2Before.f k1 t1184 x3_1).bind fun t1192 => (spec_l2Best.j1 k1 x3_1 x4_1 x5_1 t1184 t1191 t1192 l0_0 l0_1 l0_2 l0_3)) else (spec_l2Best.j1 k1 x3_1 x4_1 x5_1 t1184 t1191 false l0_0 l0_1 l0_2 l0_3))))) = some r := H
       have A10 := Aside0.mk A100
       clear A100
       replace H := Option.bind_eq_some_iff.mp H
       obtain ⟨t1191, A110, H⟩ := H
       replace H : (if x4_1 < 0 then (spec_l2Best.j1 k1 x3_1 x4_1 x5_1 t1184 t1191 true l0_0 l0_1 l0_2 l0_3) else (if t1191 < x4_1 then (spec_l2Best.j1 k1 x3_1 x4_1 x5_1 t1184 t1191 true l0_0 l0_1 l0_2 l0_3) else (if t1191 = x4_1 then ((spec_l2Before.f k1 t1184 x3_1).bind fun t1192 => (spec_l2Best.j1 k1 x3_1 x4_1 x5_1 t1184 t1191 t1192 l0_0 l0_1 l0_2 l0_3)) else (spec_l2Best.j1 k1 x3_1 x4_1 x5_1 t1184 t1191 false l0_0 l0_1 l0_2 l0_3)))) = some r := H
       have A11 := Aside0.mk A110
       clear A110
       have HC12 := Aside0.mk H
       clear H
       have hcz13_0 : wr.cell? ⟨gb1180, 0, none⟩ = some (.slice A0_0 l0_0.length c0_0) := (blk_cell BK1180.out 0).trans rfl
       have hcz13_1 : wr.cell? ⟨gb1180, 1, none⟩ = some (.slice A0_1 l0_1.length c0_1) := (blk_cell BK1180.out 1).trans rfl
       have hcz13_2 : wr.cell? ⟨gb1180, 2, none⟩ = some (.slice A0_2 l0_2.length c0_2) := (blk_cell BK1180.out 2).trans rfl
       have hcz13_3 : wr.cell? ⟨gb1180, 3, none⟩ = some (.slice A0_3 l0_3.length c0_3) := (blk_cell BK1180.out 3).trans rfl
       have hfz13_0 := blk_frozen BK1180.out 0
       have hfz13_1 := blk_frozen BK1180.out 1
       have hfz13_2 := blk_frozen BK1180.out 2
       have hfz13_3 := blk_frozen BK1180.out 3
       try go_wp2_with (first | ((with_reducible refine gate_callee (f := 95) rfl ?_); refine goesL_ (some 21) rfl rfl Try.func95 (by kernel_rfl) rfl #[.int .i64 (l0_0.length : Int), .int .i64 x5_1] rfl z1 ?_; (with_reducible refine (spec_l2Bits.calls k1 (l0_0.length : Int) x5_1 t1184 _ A7.out).mono ?_); rintro e w14 ⟨v1185, rfl, ho0, hb⟩; refine ⟨_, rfl, ?_⟩; have n0_ := Aside0.mk (Kd.R_elder' (zR HO_3.out) (Kd.R_base ho0) hb); have n1_ := Aside0.mk (Kd.R_lower (Kd.R_new' ho0 (Kd.R_lt (zR HO_3.out))) (below_size (zH1 GE1180.out))); have n2_ := Aside0.mk (blk_below (g := gb1180) (o := .cells #[.slice A0_0 l0_0.length c0_0, .slice A0_1 l0_1.length c0_1, .slice A0_2 l0_2.length c0_2, .slice A0_3 l0_3.length c0_3] 49 (0, 0)) (zB BK1180.out) hb); have n3_ := Aside0.mk (below_step (zH1 GE1180.out) hb); clear HO_3; clear BK1180; clear HB; have HO_3 := n0_; have HO1186 := n1_; have BK1180 := n2_; have HB := n3_; clear n0_ n1_ n2_ n3_; (try clear hb); (try clear hb2); (try clear hk); (try clear hi); (try clear ho0); have hcz15_0 : w14.cell? ⟨gb1180, 0, none⟩ = some (.slice A0_0 l0_0.length c0_0) := (blk_cell BK1180.out 0).trans rfl; have hcz15_1 : w14.cell? ⟨gb1180, 1, none⟩ = some (.slice A0_1 l0_1.length c0_1) := (blk_cell BK1180.out 1).trans rfl; have hcz15_2 : w14.cell? ⟨gb1180, 2, none⟩ = some (.slice A0_2 l0_2.length c0_2) := (blk_cell BK1180.out 2).trans rfl; have hcz15_3 : w14.cell? ⟨gb1180, 3, none⟩ = some (.slice A0_3 l0_3.length c0_3) := (blk_cell BK1180.out 3).trans rfl; have hfz15_0 := blk_frozen BK1180.out 0; have hfz15_1 := blk_frozen BK1180.out 1; have hfz15_2 := blk_frozen BK1180.out 2; have hfz15_3 := blk_frozen BK1180.out 3; obtain ⟨Ao16, co16, eo16⟩ := Kd.R_slice HO1186.out; subst eo16) | ((with_reducible refine gate_callee (f := 123) rfl ?_); refine goesL_ (some 24) rfl rfl Try.func123 (by kernel_rfl) rfl #[.agg #[.slice A0_0 l0_0.length c0_0, .slice A0_1 l0_1.length c0_1, .slice A0_2 l0_2.length c0_2, .slice A0_3 l0_3.length c0_3], .slice Ao16 t1184.length co16] rfl z1 ?_; (with_reducible refine (spec_l2Covers.calls k1 _ _ l0_0 _ _ l0_1 _ _ l0_2 _ _ l0_3 _ _ t1184 true _ ?side1 ?side2 ?side3 ?side4 ?side5 ?side6 ?side7 ?side8 ?side9 ?side10 A8.out).mono ?_); (case side1 => exact zC (Kd.C_below HR0_0.out HB.out)); (case side2 => exact HC0_0.out); (case side3 => exact zC (Kd.C_below HR0_1.out HB.out)); (case side4 => exact HC0_1.out); (case side5 => exact zC (Kd.C_below HR0_2.out HB.out)); (case side6 => exact HC0_2.out); (case side7 => exact zC (Kd.C_below HR0_3.out HB.out)); (case side8 => exact HC0_3.out); (case side9 => exact zC (Kd.R_reads' HO1186.out).2.2); (case side10 => exact (Kd.R_reads' HO1186.out).2.1); rintro e w17 ⟨rfl, hb⟩; refine ⟨_, rfl, ?_⟩; have n0_ := Aside0.mk (Kd.R_below (zR HO_3.out) hb); have n1_ := Aside0.mk (Kd.R_below (zR HO1186.out) hb); have n2_ := Aside0.mk (blk_below (g := gb1180) (o := .cells #[.slice A0_0 l0_0.length c0_0, .slice A0_1 l0_1.length c0_1, .slice A0_2 l0_2.length c0_2, .slice A0_3 l0_3.length c0_3] 49 (0, 0)) (zB BK1180.out) hb); have n3_ := Aside0.mk (below_step (zH1 GE1180.out) hb); clear HO_3; clear HO1186; clear BK1180; clear HB; have HO_3 := n0_; have HO1186 := n1_; have BK1180 := n2_; have HB := n3_; clear n0_ n1_ n2_ n3_; (try clear hb); (try clear hb2); (try clear hk); (try clear hi)))
       have n0_ := Aside0.mk (Kd.R_drew HO_3.out)
       have n1_ := Aside0.mk (Kd.R_drew HO1186.out)
       have n2_ := Aside0.mk (blk_drew BK1180.out)
       have n3_ := Aside0.mk (below_drew1 HB.out)
       clear HO_3
       clear HO1186
       clear BK1180
       clear HB
       have HO_3 := n0_
       have HO1186 := n1_
       have BK1180 := n2_
       have HB := n3_
       clear n0_ n1_ n2_ n3_
       refine start_ (n := 6) (S := fun w' => w'.cell? ⟨gb1180, 0, none⟩ = some (.slice A0_0 l0_0.length c0_0) ∧ w'.cell? ⟨gb1180, 1, none⟩ = some (.slice A0_1 l0_1.length c0_1) ∧ w'.cell? ⟨gb1180, 2, none⟩ = some (.slice A0_2 l0_2.length c0_2) ∧ w'.cell? ⟨gb1180, 3, none⟩ = some (.slice A0_3 l0_3.length c0_3)) (ds := []) #[false, false, false, false, false, false] (by kernel_rfl) rfl rfl ⟨(blk_cell BK1180.out 0).trans rfl, (blk_cell BK1180.out 1).trans rfl, (blk_cell BK1180.out 2).trans rfl, (blk_cell BK1180.out 3).trans rfl⟩ (fun hHeld => ?_)
       generalize w17.drew = w18 at HO_3 HO1186 BK1180 HB hHeld ⊢
       refine zP (i := 2) (N := some 28) #[false, false, true, false, false, false] (by kernel_rfl) ?_
       refine take_ (i := 0) (N := some 26) (v := ?_) (a' := ?_) #[true, false, true, false, false, false] rfl rfl (by kernel_rfl) (fun _ _ _ h => h) (Or.inl ⟨by rfl, ?_⟩) hHeld ?_ ?_
       rotate_left
       · rintro w' ⟨s0, s1, s2, s3⟩
         go_simp
         with_reducible rfl
       rotate_left
       · simp only [Act.put, List.setIfInBounds_toArray, List.set_cons_zero, List.set_cons_succ, i64_w, i32_w]
         rfl
       refine take_ (i := 1) (N := some 27) (v := ?_) (a' := ?_) #[true, true, true, false, false, false] rfl rfl (by kernel_rfl) (fun _ _ _ h => h) (Or.inl ⟨by rfl, ?_⟩) hHeld ?_ ?_
       rotate_left
       · rintro w' ⟨s0, s1, s2, s3⟩
         go_simp
         with_reducible rfl
       rotate_left
       · simp only [Act.put, List.setIfInBounds_toArray, List.set_cons_zero, List.set_cons_succ, i64_w, i32_w]
         rfl
       refine one_ (i := 3) (N := some 29) #[true, true, true, true, false, false] rfl rfl (by kernel_rfl) (by decide) (fun K hK => ?_)
       refine goes_ Try.func74 (by kernel_rfl) rfl #[.agg #[.slice A0_0 l0_0.length c0_0, .slice A0_1 l0_1.length c0_1, .slice A0_2 l0_2.length c0_2, .slice A0_3 l0_3.length c0_3], .slice Ao16 t1184.length co16] (by rfl) rfl rfl z1 ?_
       with_reducible refine (spec_l2From.calls k1 _ _ l0_0 _ _ l0_1 _ _ l0_2 _ _ l0_3 _ _ t1184 t1188 _ ?side1 ?side2 ?side3 ?side4 ?side5 ?side6 ?side7 ?side8 ?side9 ?side10 A10.out).mono ?_
       (case side1 => exact zC (Kd.C_below HR0_0.out HB.out))
       (case side2 => exact HC0_0.out)
       (case side3 => exact zC (Kd.C_below HR0_1.out HB.out))
       (case side4 => exact HC0_1.out)
       (case side5 => exact zC (Kd.C_below HR0_2.out HB.out))
       (case side6 => exact HC0_2.out)
       (case side7 => exact zC (Kd.C_below HR0_3.out HB.out))
       (case side8 => exact HC0_3.out)
       (case side9 => exact zC (Kd.R_reads' HO1186.out).2.2)
       (case side10 => exact (Kd.R_reads' HO1186.out).2.1)
       rintro e w19 ⟨v1189, rfl, ho0, hb⟩
       refine ⟨_, rfl, ?_⟩
       have n0_ := Aside0.mk (Kd.R_elder' (zR HO_3.out) (Kd.R_base ho0) hb)
       have n1_ := Aside0.mk (Kd.R_elder' (zR HO1186.out) (Kd.R_base ho0) hb)
       have n2_ := Aside0.mk (Kd.R_lower (Kd.R_new' (Kd.R_new' ho0 (Kd.R_lt (zR HO_3.out))) (Kd.R_lt (zR HO1186.out))) (below_size (zH1 GE1180.out)))
       have n3_ := Aside0.mk (blk_below (g := gb1180) (o := .cells #[.slice A0_0 l0_0.length c0_0, .slice A0_1 l0_1.length c0_1, .slice A0_2 l0_2.length c0_2, .slice A0_3 l0_3.length c0_3] 49 (0, 0)) (zB BK1180.out) hb)
       have n4_ := Aside0.mk (below_step (zH1 GE1180.out) hb)
       clear HO_3
       clear HO1186
       clear BK1180
       clear HB
       have HO_3 := n0_
       have HO1186 := n1_
       have HO1190 := n2_
       have BK1180 := n3_
       have HB := n4_
       clear n0_ n1_ n2_ n3_ n4_
       (try clear hb)
       (try clear hb2)
       (try clear hk)
       (try clear hi)
       (try clear ho0)
       obtain ⟨Ao20, co20, eo20⟩ := Kd.R_slice HO1190.out
       (first | subst eo20 | (injection eo20 with f1_ f2_ f3_; have f4_ := f1_.symm; have f5_ := f3_.symm; clear f1_ f2_ f3_; subst f4_; subst f5_))
       refine hK.out _ _ ⟨(blk_cell BK1180.out 0).trans rfl, (blk_cell BK1180.out 1).trans rfl, (blk_cell BK1180.out 2).trans rfl, (blk_cell BK1180.out 3).trans rfl⟩ (fun hHeld => ?_)
       clear hK K
       refine norm_ (a' := ?_) ?_ ?_
       rotate_left
       · show Act.put _ (some 29) _ = _
         simp only [Act.put, List.setIfInBounds_toArray, List.set_cons_zero, List.set_cons_succ, i64_w, i32_w]
         rfl
       refine one_ (i := 4) (N := some 30) #[true, true, true, true, true, false] rfl rfl (by kernel_rfl) (by decide) (fun K hK => ?_)
       refine goes_ Try.func124 (by kernel_rfl) rfl #[.agg #[.slice A0_0 l0_0.length c0_0, .slice A0_1 l0_1.length c0_1, .slice A0_2 l0_2.length c0_2, .slice A0_3 l0_3.length c0_3], .slice Ao20 t1188.length co20] (by rfl) rfl rfl z1 ?_
       with_reducible refine (spec_l2Cost.calls k1 _ _ l0_0 _ _ l0_1 _ _ l0_2 _ _ l0_3 _ _ t1188 t1191 _ ?side1 ?side2 ?side3 ?side4 ?side5 ?side6 ?side7 ?side8 ?side9 ?side10 A11.out).mono ?_
       (case side1 => exact zC (Kd.C_below HR0_0.out HB.out))
       (case side2 => exact HC0_0.out)
       (case side3 => exact zC (Kd.C_below HR0_1.out HB.out))
       (case side4 => exact HC0_1.out)
       (case side5 => exact zC (Kd.C_below HR0_2.out HB.out))
       (case side6 => exact HC0_2.out)
       (case side7 => exact zC (Kd.C_below HR0_3.out HB.out))
       (case side8 => exact HC0_3.out)
       (case side9 => exact zC (Kd.R_reads' HO1190.out).2.2)
       (case side10 => exact (Kd.R_reads' HO1190.out).2.1)
       rintro e w21 ⟨rfl, hb⟩
       refine ⟨_, rfl, ?_⟩
       have n0_ := Aside0.mk (Kd.R_below (zR HO_3.out) hb)
       have n1_ := Aside0.mk (Kd.R_below (zR HO1186.out) hb)
       have n2_ := Aside0.mk (Kd.R_below (zR HO1190.out) hb)
       have n3_ := Aside0.mk (blk_below (g := gb1180) (o := .cells #[.slice A0_0 l0_0.length c0_0, .slice A0_1 l0_1.length c0_1, .slice A0_2 l0_2.length c0_2, .slice A0_3 l0_3.length c0_3] 49 (0, 0)) (zB BK1180.out) hb)
       have n4_ := Aside0.mk (below_step (zH1 GE1180.out) hb)
       clear HO_3
       clear HO1186
       clear HO1190
       clear BK1180
       clear HB
       have HO_3 := n0_
       have HO1186 := n1_
       have HO1190 := n2_
       have BK1180 := n3_
       have HB := n4_
       clear n0_ n1_ n2_ n3_ n4_
       (try clear hb)
       (try clear hb2)
       (try clear hk)
       (try clear hi)
       refine hK.out _ _ ⟨(blk_cell BK1180.out 0).trans rfl, (blk_cell BK1180.out 1).trans rfl, (blk_cell BK1180.out 2).trans rfl, (blk_cell BK1180.out 3).trans rfl⟩ (fun hHeld => ?_)
       clear hK K
       refine norm_ (a' := ?_) ?_ ?_
       rotate_left
       · show Act.put _ (some 30) _ = _
         simp only [Act.put, List.setIfInBounds_toArray, List.set_cons_zero, List.set_cons_succ, i64_w, i32_w]
         rfl
       refine zP (i := 5) (N := some 7) #[true, true, true, true, true, true] (by kernel_rfl) ?_
       refine done_ (by kernel_rfl) ?_
       go_upto_region 8 with (fail)
       go_cut [47] (fun v47 wc => ∃ (kq : Nat) (x47_11 : Bool), v47 = .bool x47_11 ∧ Aside0 (spec_l2Best.j1 kq x3_1 x4_1 x5_1 t1184 t1191 x47_11 l0_0 l0_1 l0_2 l0_3 = some r) ∧ Aside0 (kq ≤ k1) ∧ Aside0 (Kd.R (Kd.int .i64) 3 wc w.heap.size (fun k_ => some k_ ≠ ((.slice Ao16 t1184.length co16) : Value).ownBlock) u3 x3_1) ∧ Aside0 (Kd.R (Kd.int .i64) 3 wc w.heap.size (fun k_ => some k_ ≠ (u3 : Value).ownBlock) (.slice Ao16 t1184.length co16) t1184) ∧ Aside0 (wc.heap[gb1180]? = some (.cells #[(.slice A0_0 l0_0.length c0_0), (.slice A0_1 l0_1.length c0_1), (.slice A0_2 l0_2.length c0_2), (.slice A0_3 l0_3.length c0_3)] 49 (0, 0))) ∧ Aside0 (Below w.heap.size w wc))
       case first =>
        have H := HC12.out
        clear HC12
        by_cases c22 : x4_1 < 0
        · rw [if_pos c22] at H
          have c22b0 : decide (x4_1 < 0) = true := decide_eq_true c22
          clear c22
          (first | rw [c22b0] | (simp only [i64_w, i32_w]; rw [c22b0]) | skip)
          have H' := Aside0.mk H
          clear H
          go_wp2
          go_meet
          case rel => exact ⟨_, (true), z3, H', ⟨by have := HK1.out; first | omega | exact Nat.le_refl _⟩, ⟨by (with_reducible repeat (first | apply Kd.R_alloc | apply Kd.R_drewN | apply Kd.R_drew)); exact Kd.R_mono HO_3.out (fun _ hk => hk.1.2)⟩, ⟨by (with_reducible repeat (first | apply Kd.R_alloc | apply Kd.R_drewN | apply Kd.R_drew)); exact Kd.R_mono HO1186.out (fun _ hk => hk.1.2)⟩, ⟨by (with_reducible repeat (first | refine blk_drewN ?_ _ | refine blk_drew ?_ | refine blk_alloc ?_ _)); exact BK1180.out⟩, ⟨by repeat (first | (with_reducible first | exact HB.out | apply below_alloc | apply pw_below_drewN | apply below_drew1 | refine below_set ?_ GE1180.out) | exact HB.out)⟩⟩
        · rw [if_neg c22] at H
          have c22b0 : decide (x4_1 < 0) = false := decide_eq_false c22
          clear c22
          (first | rw [c22b0] | (simp only [i64_w, i32_w]; rw [c22b0]) | skip)
          by_cases c23 : t1191 < x4_1
          · rw [if_pos c23] at H
            have c23b0 : decide (t1191 < x4_1) = true := decide_eq_true c23
            clear c23
            have H' := Aside0.mk H
            clear H
            go_wp2
            go_meet
            case rel => exact ⟨_, (true), z3, H', ⟨by have := HK1.out; first | omega | exact Nat.le_refl _⟩, ⟨by (with_reducible repeat (first | apply Kd.R_alloc | apply Kd.R_drewN | apply Kd.R_drew)); exact Kd.R_mono HO_3.out (fun _ hk => hk.1.2)⟩, ⟨by (with_reducible repeat (first | apply Kd.R_alloc | apply Kd.R_drewN | apply Kd.R_drew)); exact Kd.R_mono HO1186.out (fun _ hk => hk.1.2)⟩, ⟨by (with_reducible repeat (first | refine blk_drewN ?_ _ | refine blk_drew ?_ | refine blk_alloc ?_ _)); exact BK1180.out⟩, ⟨by repeat (first | (with_reducible first | exact HB.out | apply below_alloc | apply pw_below_drewN | apply below_drew1 | refine below_set ?_ GE1180.out) | exact HB.out)⟩⟩
          · rw [if_neg c23] at H
            have c23b0 : decide (t1191 < x4_1) = false := decide_eq_false c23
            clear c23
            by_cases c24 : t1191 = x4_1
            · rw [if_pos c24] at H
              have c24b0 : (t1191 == x4_1) = true := beq_iff_eq.mpr c24
              have c24b1 : (t1191 != x4_1) = false := bne_eq_false_iff_eq.mpr c24
              clear c24
              replace H := Option.bind_eq_some_iff.mp H
              obtain ⟨t1192, A250, H⟩ := H
              replace H : (spec_l2Best.j1 k1 x3_1 x4_1 x5_1 t1184 t1191 t1192 l0_0 l0_1 l0_2 l0_3) = some r := H
              have A25 := Aside0.mk A250
              clear A250
              have H' := Aside0.mk H
              clear H
              obtain ⟨Ao26, co26, eo26⟩ := Kd.R_slice HO_3.out
              subst eo26
              go_wp2_with (first | (go_at_call 125; (with_reducible refine (spec_l2Before.calls k1 _ _ t1184 _ _ x3_1 t1192 _ ?side1 ?side2 ?side3 ?side4 A25.out).mono ?_); (case side1 => exact zC (Kd.R_reads' HO1186.out).2.2); (case side2 => exact (Kd.R_reads' HO1186.out).2.1); (case side3 => exact zC (Kd.R_reads' HO_3.out).2.2); (case side4 => exact (Kd.R_reads' HO_3.out).2.1); rintro e w' ⟨rfl, ⟨nd, rfl⟩⟩))
              go_meet
              case rel => exact ⟨_, (t1192), z3, H', ⟨by have := HK1.out; first | omega | exact Nat.le_refl _⟩, ⟨by (with_reducible repeat (first | apply Kd.R_alloc | apply Kd.R_drewN | apply Kd.R_drew)); exact Kd.R_mono HO_3.out (fun _ hk => hk.1.2)⟩, ⟨by (with_reducible repeat (first | apply Kd.R_alloc | apply Kd.R_drewN | apply Kd.R_drew)); exact Kd.R_mono HO1186.out (fun _ hk => hk.1.2)⟩, ⟨by (with_reducible repeat (first | refine blk_drewN ?_ _ | refine blk_drew ?_ | refine blk_alloc ?_ _)); exact BK1180.out⟩, ⟨by repeat (first | (with_reducible first | exact HB.out | apply below_alloc | apply pw_below_drewN | apply below_drew1 | refine below_set ?_ GE1180.out) | exact HB.out)⟩⟩
            · rw [if_neg c24] at H
              have c24b0 : (t1191 == x4_1) = false := beq_eq_false_iff_ne.mpr c24
              have c24b1 : (t1191 != x4_1) = true := bne_iff_ne.mpr c24
              have H' := Aside0.mk H
              clear H
              go_wp2
              go_meet
              case rel => exact ⟨_, (false), z3, H', ⟨by have := HK1.out; first | omega | exact Nat.le_refl _⟩, ⟨by (with_reducible repeat (first | apply Kd.R_alloc | apply Kd.R_drewN | apply Kd.R_drew)); exact Kd.R_mono HO_3.out (fun _ hk => hk.1.2)⟩, ⟨by (with_reducible repeat (first | apply Kd.R_alloc | apply Kd.R_drewN | apply Kd.R_drew)); exact Kd.R_mono HO1186.out (fun _ hk => hk.1.2)⟩, ⟨by (with_reducible repeat (first | refine blk_drewN ?_ _ | refine blk_drew ?_ | refine blk_alloc ?_ _)); exact BK1180.out⟩, ⟨by repeat (first | (with_reducible first | exact HB.out | apply below_alloc | apply pw_below_drewN | apply below_drew1 | refine below_set ?_ GE1180.out) | exact HB.out)⟩⟩
       case rest =>
        clear HC12
        try clear c1
        try clear c2
        try clear p2
        try clear c6
        try clear c6b0
        try clear p6
        try clear c7
        try clear c9
        try clear c12
        try clear c22
        try clear c22b0
        try clear c23
        try clear c23b0
        try clear c24
        try clear c24b0
        try clear c24b1
        try clear hcz13_0
        try clear hcz13_1
        try clear hcz13_2
        try clear hcz13_3
        try clear hcz15_0
        try clear hcz15_1
        try clear hcz15_2
        try clear hcz15_3
        try clear hfz13_0
        try clear hfz13_1
        try clear hfz13_2
        try clear hfz13_3
        try clear hfz15_0
        try clear hfz15_1
        try clear hfz15_2
        try clear hfz15_3
        try clear p2
        obtain ⟨kq, x47_11, rfl, HA, HJ11, HO_3, HO_6, BK1180, HB⟩ := hcut
        cases kq with
        | zero => exact absurd HA.out (by simp [spec_l2Best.j1])
        | succ kj11 =>
         have H := HA.out
         clear HA
         simp only [spec_l2Best.j1] at H
         by_cases c27 : x47_11 = true
         · subst c27
           have H1 : (spec_l2Best.l0 kj11 t1184 t1191 (wrap64 (x5_1 + 1)) l0_0 l0_1 l0_2 l0_3) = some r := by rw [if_pos rfl] at H; exact H
           clear H
           have H := H1
           clear H1
           have H' := Aside0.mk H
           clear H
           go_wp2
           go_roundg kj11
           case measure => have := HK1.out; have := HJ11.out; omega
           case rel => exact ⟨(t1184), (t1191), (wrap64 (x5_1 + 1)), z3, z3, H', ⟨by have := HK1.out; have := HJ11.out; omega⟩, ⟨by (with_reducible repeat (first | apply Kd.R_alloc | apply Kd.R_drewN | apply Kd.R_drew)); exact Kd.R_mono HO_6.out (fun _ hk => trivial)⟩, ⟨by (with_reducible repeat (first | refine blk_drewN ?_ _ | refine blk_drew ?_ | refine blk_alloc ?_ _)); exact BK1180.out⟩, ⟨by repeat (first | (with_reducible first | exact HB.out | apply below_alloc | apply pw_below_drewN | apply below_drew1 | refine below_set ?_ GE1180.out) | exact HB.out)⟩⟩
         · replace c27 := Bool.eq_false_iff.mpr c27
           subst c27
           have H1 : (spec_l2Best.l0 kj11 x3_1 x4_1 (wrap64 (x5_1 + 1)) l0_0 l0_1 l0_2 l0_3) = some r := by rw [if_neg (show ¬ (false = true) by decide)] at H; exact H
           clear H
           have H := H1
           clear H1
           have H' := Aside0.mk H
           clear H
           go_wp2
           go_roundg kj11
           case measure => have := HK1.out; have := HJ11.out; omega
           case rel => exact ⟨(x3_1), (x4_1), (wrap64 (x5_1 + 1)), z3, z3, H', ⟨by have := HK1.out; have := HJ11.out; omega⟩, ⟨by (with_reducible repeat (first | apply Kd.R_alloc | apply Kd.R_drewN | apply Kd.R_drew)); exact Kd.R_mono HO_3.out (fun _ hk => trivial)⟩, ⟨by (with_reducible repeat (first | refine blk_drewN ?_ _ | refine blk_drew ?_ | refine blk_alloc ?_ _)); exact BK1180.out⟩, ⟨by repeat (first | (with_reducible first | exact HB.out | apply below_alloc | apply pw_below_drewN | apply below_drew1 | refine below_set ?_ GE1180.out) | exact HB.out)⟩⟩
     · replace c9 := Bool.eq_false_iff.mpr c9
       subst c9
       have H1 : (spec_l2Best.l0 k1 x3_1 x4_1 (wrap64 (x5_1 + 1)) l0_0 l0_1 l0_2 l0_3) = some r := by rw [if_neg (show ¬ (false = true) by decide)] at H; exact H
       clear H
       have H := H1
       clear H1
       have H' := Aside0.mk H
       clear H
       have hcz28_0 : wr.cell? ⟨gb1180, 0, none⟩ = some (.slice A0_0 l0_0.length c0_0) := (blk_cell BK1180.out 0).trans rfl
       have hcz28_1 : wr.cell? ⟨gb1180, 1, none⟩ = some (.slice A0_1 l0_1.length c0_1) := (blk_cell BK1180.out 1).trans rfl
       have hcz28_2 : wr.cell? ⟨gb1180, 2, none⟩ = some (.slice A0_2 l0_2.length c0_2) := (blk_cell BK1180.out 2).trans rfl
       have hcz28_3 : wr.cell? ⟨gb1180, 3, none⟩ = some (.slice A0_3 l0_3.length c0_3) := (blk_cell BK1180.out 3).trans rfl
       have hfz28_0 := blk_frozen BK1180.out 0
       have hfz28_1 := blk_frozen BK1180.out 1
       have hfz28_2 := blk_frozen BK1180.out 2
       have hfz28_3 := blk_frozen BK1180.out 3
       go_wp2_with (first | ((with_reducible refine gate_callee (f := 95) rfl ?_); refine goesL_ (some 21) rfl rfl Try.func95 (by kernel_rfl) rfl #[.int .i64 (l0_0.length : Int), .int .i64 x5_1] rfl z1 ?_; (with_reducible refine (spec_l2Bits.calls k1 (l0_0.length : Int) x5_1 t1184 _ A7.out).mono ?_); rintro e w29 ⟨v1185, rfl, ho0, hb⟩; refine ⟨_, rfl, ?_⟩; have n0_ := Aside0.mk (Kd.R_elder' (zR HO_3.out) (Kd.R_base ho0) hb); have n1_ := Aside0.mk (Kd.R_lower (Kd.R_new' ho0 (Kd.R_lt (zR HO_3.out))) (below_size (zH1 GE1180.out))); have n2_ := Aside0.mk (blk_below (g := gb1180) (o := .cells #[.slice A0_0 l0_0.length c0_0, .slice A0_1 l0_1.length c0_1, .slice A0_2 l0_2.length c0_2, .slice A0_3 l0_3.length c0_3] 49 (0, 0)) (zB BK1180.out) hb); have n3_ := Aside0.mk (below_step (zH1 GE1180.out) hb); clear HO_3; clear BK1180; clear HB; have HO_3 := n0_; have HO1186 := n1_; have BK1180 := n2_; have HB := n3_; clear n0_ n1_ n2_ n3_; (try clear hb); (try clear hb2); (try clear hk); (try clear hi); (try clear ho0); have hcz30_0 : w29.cell? ⟨gb1180, 0, none⟩ = some (.slice A0_0 l0_0.length c0_0) := (blk_cell BK1180.out 0).trans rfl; have hcz30_1 : w29.cell? ⟨gb1180, 1, none⟩ = some (.slice A0_1 l0_1.length c0_1) := (blk_cell BK1180.out 1).trans rfl; have hcz30_2 : w29.cell? ⟨gb1180, 2, none⟩ = some (.slice A0_2 l0_2.length c0_2) := (blk_cell BK1180.out 2).trans rfl; have hcz30_3 : w29.cell? ⟨gb1180, 3, none⟩ = some (.slice A0_3 l0_3.length c0_3) := (blk_cell BK1180.out 3).trans rfl; have hfz30_0 := blk_frozen BK1180.out 0; have hfz30_1 := blk_frozen BK1180.out 1; have hfz30_2 := blk_frozen BK1180.out 2; have hfz30_3 := blk_frozen BK1180.out 3; obtain ⟨Ao31, co31, eo31⟩ := Kd.R_slice HO1186.out; subst eo31) | ((with_reducible refine gate_callee (f := 123) rfl ?_); refine goesL_ (some 24) rfl rfl Try.func123 (by kernel_rfl) rfl #[.agg #[.slice A0_0 l0_0.length c0_0, .slice A0_1 l0_1.length c0_1, .slice A0_2 l0_2.length c0_2, .slice A0_3 l0_3.length c0_3], .slice Ao31 t1184.length co31] rfl z1 ?_; (with_reducible refine (spec_l2Covers.calls k1 _ _ l0_0 _ _ l0_1 _ _ l0_2 _ _ l0_3 _ _ t1184 false _ ?side1 ?side2 ?side3 ?side4 ?side5 ?side6 ?side7 ?side8 ?side9 ?side10 A8.out).mono ?_); (case side1 => exact zC (Kd.C_below HR0_0.out HB.out)); (case side2 => exact HC0_0.out); (case side3 => exact zC (Kd.C_below HR0_1.out HB.out)); (case side4 => exact HC0_1.out); (case side5 => exact zC (Kd.C_below HR0_2.out HB.out)); (case side6 => exact HC0_2.out); (case side7 => exact zC (Kd.C_below HR0_3.out HB.out)); (case side8 => exact HC0_3.out); (case side9 => exact zC (Kd.R_reads' HO1186.out).2.2); (case side10 => exact (Kd.R_reads' HO1186.out).2.1); rintro e w32 ⟨rfl, hb⟩; refine ⟨_, rfl, ?_⟩; have n0_ := Aside0.mk (Kd.R_below (zR HO_3.out) hb); have n1_ := Aside0.mk (Kd.R_below (zR HO1186.out) hb); have n2_ := Aside0.mk (blk_below (g := gb1180) (o := .cells #[.slice A0_0 l0_0.length c0_0, .slice A0_1 l0_1.length c0_1, .slice A0_2 l0_2.length c0_2, .slice A0_3 l0_3.length c0_3] 49 (0, 0)) (zB BK1180.out) hb); have n3_ := Aside0.mk (below_step (zH1 GE1180.out) hb); clear HO_3; clear HO1186; clear BK1180; clear HB; have HO_3 := n0_; have HO1186 := n1_; have BK1180 := n2_; have HB := n3_; clear n0_ n1_ n2_ n3_; (try clear hb); (try clear hb2); (try clear hk); (try clear hi)))
       go_roundg k1
       case measure => have := HK1.out; omega
       case rel => exact ⟨(x3_1), (x4_1), (wrap64 (x5_1 + 1)), z3, z3, H', ⟨by have := HK1.out; omega⟩, ⟨by (with_reducible repeat (first | apply Kd.R_alloc | apply Kd.R_drewN | apply Kd.R_drew)); exact Kd.R_mono HO_3.out (fun _ hk => trivial)⟩, ⟨by (with_reducible repeat (first | refine blk_drewN ?_ _ | refine blk_drew ?_ | refine blk_alloc ?_ _)); exact BK1180.out⟩, ⟨by repeat (first | (with_reducible first | exact HB.out | apply below_alloc | apply pw_below_drewN | apply below_drew1 | refine below_set ?_ GE1180.out) | exact HB.out)⟩⟩
   · rw [if_neg c6] at H
     have c6b0 : decide (x5_1 < (ji5)) = false := decide_eq_false c6
     clear c6
     obtain rfl := Option.some.inj H
     have hcz33_0 : wr.cell? ⟨gb1180, 0, none⟩ = some (.slice A0_0 l0_0.length c0_0) := (blk_cell BK1180.out 0).trans rfl
     have hcz33_1 : wr.cell? ⟨gb1180, 1, none⟩ = some (.slice A0_1 l0_1.length c0_1) := (blk_cell BK1180.out 1).trans rfl
     have hcz33_2 : wr.cell? ⟨gb1180, 2, none⟩ = some (.slice A0_2 l0_2.length c0_2) := (blk_cell BK1180.out 2).trans rfl
     have hcz33_3 : wr.cell? ⟨gb1180, 3, none⟩ = some (.slice A0_3 l0_3.length c0_3) := (blk_cell BK1180.out 3).trans rfl
     have hfz33_0 := blk_frozen BK1180.out 0
     have hfz33_1 := blk_frozen BK1180.out 1
     have hfz33_2 := blk_frozen BK1180.out 2
     have hfz33_3 := blk_frozen BK1180.out 3
     go_wp2
     go_ret
     exact ⟨_, by first | rfl | (simp [errW_none, errW_some] <;> rfl) | (simp only [← hji5]; first | rfl | (simp [errW_none, errW_some] <;> rfl)) | (simp [*, errW_none, errW_some] <;> rfl), by (with_reducible repeat (first | apply Kd.R_alloc | apply Kd.R_drewN | apply Kd.R_drew)); exact HO_3.out, by repeat (first | (with_reducible first | exact HB.out | apply below_alloc | apply pw_below_drewN | apply below_drew1 | refine below_set ?_ GE1180.out) | exact HB.out)⟩
end Go.Proofs.Ythlmmcmpllgflaa.P
namespace Go.Proofs.Ythlmmcmpllgflaa.P
open Go.RowKit Go.Proofs.YthlmmcmpllgflaaW.PrintWords Go.Proofs.YthlmmcmpllgflaaW.PrintLast Go.Proofs.YthlmmcmpllgflaaW.PrintMore ChainMath
def Ob (code : Nat) (i : Nat) : Bool := decide ((Go.bits .and .i64 (shr .i64 (code : Int) (i : Int)) 1) = 1)
theorem cnt_le_self (O : Nat → Bool) : ∀ i, cnt O i ≤ i
  | 0 => Nat.le_refl _
  | i + 1 => by have := cnt_le_self O i; simp only [cnt]; split <;> omega
theorem l2Bits_l0 (n code : Nat) (hn : n ≤ 8) : ∀ d i, i + d = n → Ev (fun k => spec_l2Bits.l0 k (n : Int) (code : Int) (per (Ob code) i) (i : Int)) (per (Ob code) n)
  | 0, i, h => by
    refine Ev.step (fun k => spec_l2Bits.l0.eq_2 ..) ?_
    exact Ev.neg (by omega) ((Ev.now _).to (by rw [show i = n by omega]))
  | d + 1, i, h => by
    have ih := l2Bits_l0 n code hn d (i + 1) (by omega)
    refine Ev.step (fun k => spec_l2Bits.l0.eq_2 ..) ?_
    refine Ev.pos (by omega) (Ev.pos (by omega) ?_)
    rw [wrS (by omega)]
    rw [show per (Ob code) (i + 1) = per (Ob code) i ++ (if Ob code i then [(i : Int)] else []) by unfold per; rw [perN_succ, List.map_append]; split <;> simp] at ih
    by_cases hb : (Go.bits .and .i64 (shr .i64 (code : Int) (i : Int)) 1) = 1
    · have e : Ob code i = true := by unfold Ob; rw [decide_eq_true hb]
      rw [e, if_pos rfl] at ih
      refine Ev.pos hb (Ev.pos ?_ ih)
      rw [per_len]
      have := cnt_le_self (Ob code) i
      omega
    · have e : Ob code i = false := by unfold Ob; rw [decide_eq_false hb]
      rw [e] at ih
      simp only [Bool.false_eq_true, if_false, List.append_nil] at ih
      exact Ev.neg hb ih
theorem l2Bits_ev (n code : Nat) (hn : n ≤ 8) : Ev (fun k => spec_l2Bits.f k (n : Int) (code : Int)) (per (Ob code) n) := by
  unfold spec_l2Bits.f
  exact l2Bits_l0 n code hn n 0 (by omega)
theorem first_order (O : Nat → Bool) {n : Nat} (h : 0 < cnt O n) : (per O n).getD 0 0 = (nxt O n 0 : Int) ∧ nxt O n 0 < n := by
  have h3 := cnt_nxt O n (i := 0)
  have h4 : nxt O n 0 < n := by
    have := nxt_le O (n := n) (t := 0) (by omega)
    rcases Nat.eq_or_lt_of_le this with e | e
    · rw [e] at h3; simp [cnt] at h3; omega
    · exact e
  have h5 := per_get O h4 (nxt_in O h4)
  rw [h3] at h5; exact ⟨h5, h4⟩
theorem no_order (O : Nat → Bool) {n : Nat} (h : cnt O n = 0) : nxt O n 0 = n := by
  have h1 := nxt_le O (n := n) (t := 0) (by omega)
  rcases Nat.eq_or_lt_of_le h1 with e | e
  · exact e
  · have h5 := nxt_in O e
    have := cnt_mono O (show nxt O n 0 + 1 ≤ n from e)
    simp only [cnt, h5, if_true] at this; omega
theorem l2Covers_l0 (need a b c : List Int) (O : Nat → Bool) (hl : need.length ≤ 1000) (hn : ∀ x ∈ need, 0 ≤ x ∧ x ≤ 1000000) : ∀ d i, i + d = need.length → (∀ u, u < i → O u = false) → dsum need i = 0 →
    Ev (fun k => spec_l2Covers.l0 k (per O need.length) (i : Int) need a b c) (decide (cover need O))
  | 0, i, h, h1, h2 => by
    refine Ev.step (fun k => spec_l2Covers.l0.eq_2 ..) ?_
    refine Ev.neg (by omega) ((Ev.now _).to ?_)
    have hi : i = need.length := by omega
    subst hi
    symm; rw [decide_eq_true_eq]; unfold cover
    have h3 := nxt_le O (n := need.length) (t := 0) (by omega)
    rcases Nat.eq_or_lt_of_le h3 with e | e
    · rw [e]; exact h2
    · have := nxt_in O e; rw [h1 _ e] at this; simp at this
  | d + 1, i, h, h1, h2 => by
    have hi : i < need.length := by omega
    have hj : Ev (fun k => spec_l2Covers.j1 k (per O need.length) (i : Int) (decide (nxt O need.length 0 ≤ i)) need a b c) (decide (cover need O)) := by
      refine Ev.step (fun k => spec_l2Covers.j1.eq_2 ..) ?_
      by_cases hz : nxt O need.length 0 ≤ i
      · refine Ev.pos (by simpa using hz) ((Ev.now _).to ?_)
        symm; rw [decide_eq_true_eq]; unfold cover
        have h3 : nxt O need.length 0 = i := by
          rcases Nat.eq_or_lt_of_le hz with e | e
          · exact e
          · have := nxt_in O (show nxt O need.length 0 < need.length by omega); rw [h1 _ e] at this; simp at this
        rw [h3]; exact h2
      · refine Ev.neg (by simpa using hz) (Ev.pos (by omega) (Ev.pos (by omega) ?_))
        rw [rd_nat]
        have ho : O i = false := nxt_not O (n := need.length) (Nat.zero_le i) (by omega)
        by_cases hp : need.getD i 0 > 0
        · refine Ev.pos hp ((Ev.now _).to ?_)
          symm; rw [decide_eq_false_iff_not]; unfold cover
          have h4 := dsum_mono need (fun x hx => (hn x hx).1) (i + 1) (nxt O need.length 0) (by omega) (nxt_le O (by omega))
          rw [dsum_succ need hi] at h4; omega
        · refine Ev.neg hp ?_
          rw [wrS (by omega)]
          have hx := hn _ (getD_mem need hi)
          exact l2Covers_l0 need a b c O hl hn d (i + 1) (by omega) (fun u hu => by rcases Nat.eq_or_lt_of_le (Nat.le_of_lt_succ hu) with e | e; rw [e]; exact ho; exact h1 u e) (by rw [dsum_succ need hi]; omega)
    refine Ev.step (fun k => spec_l2Covers.l0.eq_2 ..) ?_
    refine Ev.pos (by omega) ?_
    rw [per_len]
    by_cases hc : 0 < cnt O need.length
    · obtain ⟨f1, f2⟩ := first_order O hc
      refine Ev.pos (by omega) (Ev.pos (by omega) ?_)
      have e : rd (per O need.length) 0 = (nxt O need.length 0 : Int) := f1
      rw [e, show decide ((nxt O need.length 0 : Int) ≤ (i : Int)) = decide (nxt O need.length 0 ≤ i) by simp]
      exact hj
    · refine Ev.neg (by omega) ?_
      rw [show decide (nxt O need.length 0 ≤ i) = false by rw [no_order O (by omega)]; simp; omega] at hj
      exact hj
theorem l2Covers_ev (need a b c : List Int) (O : Nat → Bool) (hl : need.length ≤ 1000) (hn : ∀ x ∈ need, 0 ≤ x ∧ x ≤ 1000000) :
    Ev (fun k => spec_l2Covers.f k need a b c (per O need.length)) (decide (cover need O)) := by
  unfold spec_l2Covers.f
  exact l2Covers_l0 need a b c O hl hn need.length 0 (by omega) (fun u hu => by omega) (dsum_zero _)
theorem lsum_part (l : List Int) {a b : Nat} (h : a ≤ b) : lsum ((l.take b).drop a) = dsum l b - dsum l a := by
  have e : (l.take b).take a ++ (l.take b).drop a = l.take b := List.take_append_drop _ _
  have h2 : lsum ((l.take b).take a) + lsum ((l.take b).drop a) = lsum (l.take b) := by rw [← lsum_append, e]
  rw [List.take_take, Nat.min_eq_left h] at h2
  unfold dsum; omega
theorem l2Sum_part (l : List Int) (hl : l.length ≤ 1000) (hn : ∀ x ∈ l, 0 ≤ x ∧ x ≤ 1000000) {a b : Nat} (h : a ≤ b) (hb : b ≤ l.length) : Ev (fun k => spec_l2Sum.f k ((l.take b).drop a)) (dsum l b - dsum l a) := by
  refine (l2Sum_ev _ ?_ ?_).to (lsum_part l h)
  · rw [List.length_drop, List.length_take]; omega
  · intro x hx; have := hn x (List.mem_of_mem_take (List.mem_of_mem_drop hx)); omega
def ahead (need : List Int) (O : Nat → Bool) (i : Nat) : List Int := (List.range need.length).map fun t => if O t = true ∧ t < i then dsum need (nxt O need.length (t + 1)) - dsum need t else 0
theorem ahead_len (need : List Int) (O : Nat → Bool) (i : Nat) : (ahead need O i).length = need.length := by unfold ahead; simp
theorem ahead_get (need : List Int) (O : Nat → Bool) (i : Nat) {t : Nat} (h : t < need.length) : (ahead need O i).getD t 0 = if O t = true ∧ t < i then dsum need (nxt O need.length (t + 1)) - dsum need t else 0 := by
  unfold ahead; rw [List.getD_eq_getElem?_getD, List.getElem?_map, List.getElem?_range h]; rfl
theorem ahead_n (need : List Int) (O : Nat → Bool) : ahead need O need.length = planOf need O := by
  refine ext_getD (by rw [ahead_len, planOf_len]) fun t ht => ?_
  rw [ahead_len] at ht
  rw [ahead_get need O _ ht, planOf_get need O ht]
  by_cases h : O t = true
  · rw [if_pos ⟨h, ht⟩, if_pos h]
  · rw [if_neg (fun e => h e.1), if_neg h]
theorem ahead_skip (need : List Int) (O : Nat → Bool) {i : Nat} (ho : O i = false) : ahead need O (i + 1) = ahead need O i := by
  refine ext_getD (by rw [ahead_len, ahead_len]) fun t ht => ?_
  rw [ahead_len] at ht
  rw [ahead_get need O _ ht, ahead_get need O _ ht]
  by_cases h : O t = true ∧ t < i
  · rw [if_pos h, if_pos ⟨h.1, by omega⟩]
  · rw [if_neg h, if_neg (fun e => h ⟨e.1, by
      rcases Nat.eq_or_lt_of_le (Nat.le_of_lt_succ e.2) with e2 | e2
      · rw [e2, ho] at e; simp at e
      · exact e2⟩)]
theorem ahead_set (need : List Int) (O : Nat → Bool) {i : Nat} (h : i < need.length) (ho : O i = true) : (ahead need O i).set i (dsum need (nxt O need.length (i + 1)) - dsum need i) = ahead need O (i + 1) := by
  refine ext_getD (by rw [List.length_set, ahead_len, ahead_len]) fun t ht => ?_
  rw [List.length_set, ahead_len] at ht
  rw [getD_set _ _ _ _ (by rw [ahead_len]; exact h), ahead_get need O _ ht, ahead_get need O _ ht]
  by_cases e : t = i
  · subst e; rw [if_pos rfl, if_pos ⟨ho, by omega⟩]
  · rw [if_neg e]
    by_cases h2 : O t = true ∧ t < i
    · rw [if_pos h2, if_pos ⟨h2.1, by omega⟩]
    · rw [if_neg h2, if_neg (fun e2 => h2 ⟨e2.1, by have := e2.2; omega⟩)]
theorem next_order (O : Nat → Bool) {n i : Nat} (hi : i < n) (ho : O i = true) :
    if cnt O i + 1 < cnt O n then (per O n).getD (cnt O i + 1) 0 = (nxt O n (i + 1) : Int) else nxt O n (i + 1) = n := by
  have h1 : cnt O (i + 1) = cnt O i + 1 := by simp [cnt, ho]
  have h2 := cnt_nxt O n (i := i + 1)
  have h3 := nxt_le O (n := n) (t := i + 1) (by omega)
  split
  · rename_i hc
    rcases Nat.eq_or_lt_of_le h3 with e | e
    · rw [e] at h2; omega
    · have := per_get O e (nxt_in O e); rw [h2, h1] at this; exact this
  · rename_i hc
    rcases Nat.eq_or_lt_of_le h3 with e | e
    · exact e
    · have h5 := nxt_in O e
      have := cnt_mono O (show nxt O n (i + 1) + 1 ≤ n from e)
      simp only [cnt, h5, if_true] at this; omega
theorem l2From_l0 (need a b c : List Int) (O : Nat → Bool) (hl : need.length ≤ 1000) (hn : ∀ x ∈ need, 0 ≤ x ∧ x ≤ 1000000) : ∀ d i, i + d = need.length →
    Ev (fun k => spec_l2From.l0 k (per O need.length) (ahead need O i) (cnt O i : Int) need a b c) (planOf need O)
  | 0, i, h => by
    have hi : i = need.length := by omega
    subst hi
    refine Ev.step (fun k => spec_l2From.l0.eq_2 ..) ?_
    rw [per_len]
    exact Ev.neg (by omega) ((Ev.now _).to (ahead_n need O))
  | d + 1, i, h => by
    have hi : i < need.length := by omega
    have ih := l2From_l0 need a b c O hl hn d (i + 1) (by omega)
    have hci := cnt_le_self O i
    by_cases ho : O i = true
    · have hlt : cnt O i < cnt O need.length := by have := cnt_mono O (show i + 1 ≤ need.length from hi); simp only [cnt, ho, if_true] at this; omega
      have hcs : cnt O (i + 1) = cnt O i + 1 := by simp [cnt, ho]
      have hno := next_order O hi ho
      have hge := nxt_ge O need.length (i + 1); have hle := nxt_le O (n := need.length) (t := i + 1) (by omega)
      have hsum := l2Sum_part need hl hn (a := i) (b := nxt O need.length (i + 1)) (by omega) hle
      rw [hcs, ← ahead_set need O hi ho] at ih
      refine Ev.step (fun k => spec_l2From.l0.eq_2 ..) ?_
      rw [per_len, wrS (by omega), rd_nat, rd_nat, per_get O hi ho, ahead_len]
      refine Ev.pos (by omega) ?_
      by_cases hc : cnt O i + 1 < cnt O need.length
      · rw [if_pos hc] at hno
        rw [hno]
        refine Ev.pos (by omega) (Ev.pos (by omega) (Ev.pos (by omega) (Ev.pos (by omega) (Ev.pos (by omega) (Ev.pos (by omega) ?_)))))
        rw [Int.toNat_natCast, Int.toNat_natCast]
        refine Ev.bind hsum (Ev.pos (by omega) ?_)
        exact ih
      · rw [if_neg hc] at hno
        rw [hno] at hsum ih
        refine Ev.neg (by omega) (Ev.pos (by omega) (Ev.pos (by omega) (Ev.pos (by omega) (Ev.pos (by omega) ?_))))
        rw [Int.toNat_natCast, Int.toNat_natCast]
        refine Ev.bind hsum (Ev.pos (by omega) ?_)
        exact ih
    · have ho : O i = false := by simpa using ho
      have hcs : cnt O (i + 1) = cnt O i := by simp [cnt, ho]
      rw [hcs, ahead_skip need O ho] at ih
      exact ih
theorem l2From_ev (need a b c : List Int) (O : Nat → Bool) (hl : need.length ≤ 1000) (hn : ∀ x ∈ need, 0 ≤ x ∧ x ≤ 1000000) :
    Ev (fun k => spec_l2From.f k need a b c (per O need.length)) (planOf need O) := by
  unfold spec_l2From.f
  refine Ev.pos (by omega) (Ev.pos (by omega) ?_)
  have e : List.replicate ((need.length : Int)).toNat (0 : Int) = ahead need O 0 := by
    refine ext_getD (by rw [ahead_len]; simp) fun t ht => ?_
    simp at ht
    rw [ahead_get need O 0 ht, if_neg (by omega)]; simp [List.getD_eq_getElem?_getD, List.getElem?_replicate]; rw [if_pos ht]; rfl
  rw [e]
  exact l2From_l0 need a b c O hl hn need.length 0 (by omega)
structure Lots (need setup unit hold : List Int) : Prop where
  n : need.length ≤ 8
  ls : setup.length = need.length
  lu : unit.length = need.length
  lh : hold.length = need.length
  need : ∀ x ∈ need, 0 ≤ x ∧ x ≤ 20
  setup : ∀ x ∈ setup, 0 ≤ x ∧ x ≤ 99
  unit : ∀ x ∈ unit, 0 ≤ x ∧ x ≤ 9
  hold : ∀ x ∈ hold, 0 ≤ x ∧ x ≤ 9
structure PlanIs (need plan : List Int) : Prop where
  len : plan.length = need.length
  amt : ∀ x ∈ plan, 0 ≤ x ∧ x ≤ 160
  over : ∀ t, t ≤ need.length → dsum need t ≤ dsum plan t
def stk (need plan : List Int) (t : Nat) : Int := dsum plan t - dsum need t
def pS (setup plan : List Int) (t : Nat) : Int := if 0 < plan.getD t 0 then setup.getD t 0 else 0
def pU (unit plan : List Int) (t : Nat) : Int := unit.getD t 0 * plan.getD t 0
def pH (need hold plan : List Int) (t : Nat) : Int := hold.getD t 0 * stk need plan (t + 1)
def lcost (need setup unit hold plan : List Int) : Int := sumN (pS setup plan) need.length + sumN (pU unit plan) need.length + sumN (pH need hold plan) need.length
section
variable {need setup unit hold plan : List Int} (L : Lots need setup unit hold) (P : PlanIs need plan)
include L P
theorem stk_bound {t : Nat} (h : t ≤ need.length) : 0 ≤ stk need plan t ∧ stk need plan t ≤ 1280 := by
  have h1 := dsum_bound plan 160 P.amt t (by rw [P.len]; exact h); have h2 := dsum_bound need 20 L.need t h; have h3 := P.over t h
  have := L.n; unfold stk; omega
theorem part_bound {t : Nat} (h : t < need.length) : (0 ≤ pS setup plan t ∧ pS setup plan t ≤ 99) ∧ (0 ≤ pU unit plan t ∧ pU unit plan t ≤ 1440) ∧ (0 ≤ pH need hold plan t ∧ pH need hold plan t ≤ 11520) := by
  have hs := L.setup _ (getD_mem setup (i := t) (by rw [L.ls]; exact h)); have hu := L.unit _ (getD_mem unit (i := t) (by rw [L.lu]; exact h)); have hh := L.hold _ (getD_mem hold (i := t) (by rw [L.lh]; exact h))
  have hp := P.amt _ (getD_mem plan (i := t) (by rw [P.len]; exact h)); have hk := stk_bound L P (t := t + 1) h
  refine ⟨?_, ⟨Int.mul_nonneg hu.1 hp.1, ?_⟩, ⟨Int.mul_nonneg hh.1 hk.1, ?_⟩⟩
  · unfold pS; split <;> omega
  · exact Int.mul_le_mul hu.2 hp.2 hp.1 (by omega)
  · exact Int.mul_le_mul hh.2 hk.2 hk.1 (by omega)
theorem sums_bound {i : Nat} (h : i ≤ need.length) : (0 ≤ sumN (pS setup plan) i ∧ sumN (pS setup plan) i ≤ 1000) ∧ (0 ≤ sumN (pU unit plan) i ∧ sumN (pU unit plan) i ≤ 20000) ∧ (0 ≤ sumN (pH need hold plan) i ∧ sumN (pH need hold plan) i ≤ 100000) := by
  have h1 := sum_bound (f := pS setup plan) (B := 99) i (fun j hj => (part_bound L P (t := j) (by omega)).1)
  have h2 := sum_bound (f := pU unit plan) (B := 1440) i (fun j hj => (part_bound L P (t := j) (by omega)).2.1)
  have h3 := sum_bound (f := pH need hold plan) (B := 11520) i (fun j hj => (part_bound L P (t := j) (by omega)).2.2)
  have := L.n
  omega
theorem lcost_nonneg : 0 ≤ lcost need setup unit hold plan := by
  have := sums_bound L P (i := need.length) (Nat.le_refl _); unfold lcost; omega
theorem parts_l0 : ∀ d i, i + d = need.length →
    Ev (fun k => impl_Case_parts.l0 k (sumN (pS setup plan) i) (sumN (pU unit plan) i) (sumN (pH need hold plan) i) (stk need plan i) plan (plan.length : Int) (i : Int) need setup unit hold) (sumN (pS setup plan) need.length, sumN (pU unit plan) need.length, sumN (pH need hold plan) need.length)
  | 0, i, h => by
    refine Ev.step (fun k => impl_Case_parts.l0.eq_2 ..) ?_
    have := P.len
    exact Ev.neg (by omega) ((Ev.now _).to (by rw [show i = need.length by omega]))
  | d + 1, i, h => by
    have hi : i < need.length := by omega
    have ih := parts_l0 d (i + 1) (by omega)
    have hl := P.len; have l1 := L.ls; have l2 := L.lu; have l3 := L.lh; have hn := L.n
    have hb := sums_bound L P (i := i) (by omega); have hpb := part_bound L P hi; have hk := stk_bound L P (t := i) (by omega); have hk' := stk_bound L P (t := i + 1) (by omega)
    have hxn := L.need _ (getD_mem need hi); have hxp := P.amt _ (getD_mem plan (i := i) (by omega))
    have es : stk need plan (i + 1) = stk need plan i + (plan.getD i 0 - need.getD i 0) := by unfold stk; rw [dsum_succ plan (by omega), dsum_succ need hi]; omega
    refine Ev.step (fun k => impl_Case_parts.l0.eq_2 ..) ?_
    refine Ev.pos (by omega) (Ev.pos (by omega) (Ev.pos (by omega) (Ev.pos (by omega) ?_)))
    simp only [rd_nat]
    have eu : unit.getD i 0 * plan.getD i 0 = pU unit plan i := rfl
    have eh : hold.getD i 0 * stk need plan (i + 1) = pH need hold plan i := rfl
    rw [wr (n := plan.getD i 0 - need.getD i 0) (by omega) (by omega), ← es, wr (n := stk need plan (i + 1)) (by omega) (by omega), eu, eh, wr (n := pU unit plan i) (by omega) (by omega), wr (n := pH need hold plan i) (by omega) (by omega), wr (n := sumN (pU unit plan) i + pU unit plan i) (by omega) (by omega), wr (n := sumN (pH need hold plan) i + pH need hold plan i) (by omega) (by omega), wrS (by omega)]
    by_cases hp : plan.getD i 0 > 0
    · have e1 : pS setup plan i = setup.getD i 0 := by unfold pS; rw [if_pos hp]
      rw [← e1, wr (n := sumN (pS setup plan) i + pS setup plan i) (by omega) (by omega)]
      refine Ev.pos hp (Ev.pos (by omega) (Ev.pos (by omega) (Ev.pos (by omega) ?_)))
      exact ih
    · have e1 : pS setup plan i = 0 := by unfold pS; rw [if_neg (by omega)]
      refine Ev.neg hp (Ev.pos (by omega) (Ev.pos (by omega) ?_))
      refine Ev.to (g := _) ?_ rfl
      have e2 : sumN (pS setup plan) (i + 1) = sumN (pS setup plan) i := by simp only [sumN]; omega
      rw [e2] at ih; exact ih
theorem lotcost_ev : Ev (fun k => impl_Case_cost.f k need setup unit hold plan) (lcost need setup unit hold plan) := by
  unfold impl_Case_cost.f impl_Case_parts.f
  have h0 := parts_l0 L P need.length 0 (by omega)
  have hb := sums_bound L P (i := need.length) (Nat.le_refl _)
  refine Ev.bind h0 ((Ev.now _).to ?_)
  dsimp only
  rw [wr (n := sumN (pS setup plan) need.length + sumN (pU unit plan) need.length) (by omega) (by omega), wr (by omega) (by omega)]; rfl
def stkL (need plan : List Int) (i : Nat) : List Int := (List.range i).map fun t => stk need plan (t + 1)
omit L P in
theorem stkL_len (i : Nat) : (stkL need plan i).length = i := by simp [stkL]
omit L P in
theorem stkL_get {i t : Nat} (h : t < i) : (stkL need plan i).getD t 0 = stk need plan (t + 1) := by
  unfold stkL; rw [List.getD_eq_getElem?_getD, List.getElem?_map, List.getElem?_range h]; rfl
theorem l2Stocks_l0 (a b c : List Int) : ∀ d i, i + d = need.length →
    Ev (fun k => spec_l2Stocks.l0 k plan (stkL need plan i) (stk need plan i) (i : Int) need a b c) (stkL need plan need.length)
  | 0, i, h => by
    refine Ev.step (fun k => spec_l2Stocks.l0.eq_2 ..) ?_
    have := P.len
    exact Ev.neg (by omega) ((Ev.now _).to (by rw [show i = need.length by omega]))
  | d + 1, i, h => by
    have hi : i < need.length := by omega
    have ih := l2Stocks_l0 a b c d (i + 1) (by omega)
    have hl := P.len; have hn := L.n
    have hk := stk_bound L P (t := i) (by omega); have hk' := stk_bound L P (t := i + 1) (by omega)
    have hxn := L.need _ (getD_mem need hi); have hxp := P.amt _ (getD_mem plan (i := i) (by omega))
    have es : stk need plan i + plan.getD i 0 - need.getD i 0 = stk need plan (i + 1) := by unfold stk; rw [dsum_succ plan (by omega), dsum_succ need hi]; omega
    refine Ev.step (fun k => spec_l2Stocks.l0.eq_2 ..) ?_
    refine Ev.pos (by omega) (Ev.pos (by omega) (Ev.pos (by omega) ?_))
    simp only [rd_nat]
    rw [wr (n := stk need plan i + plan.getD i 0) (by omega) (by omega), es, wr (n := stk need plan (i + 1)) (by omega) (by omega), wrS (by omega)]
    refine Ev.pos (by rw [stkL_len]; omega) ?_
    have e : stkL need plan i ++ [stk need plan (i + 1)] = stkL need plan (i + 1) := by unfold stkL; rw [List.range_succ, List.map_append]; rfl
    rw [e]; exact ih
theorem l2Stocks_ev (a b c : List Int) : Ev (fun k => spec_l2Stocks.f k need a b c plan) (stkL need plan need.length) := by
  unfold spec_l2Stocks.f
  have := l2Stocks_l0 L P a b c need.length 0 (by omega)
  rwa [show stk need plan 0 = 0 by unfold stk; rw [dsum_zero, dsum_zero]; rfl] at this
theorem l2Parts_l0 : ∀ d i, i + d = need.length →
    Ev (fun k => spec_l2Parts.l0 k plan (stkL need plan need.length) (i : Int) need setup unit hold (sumN (pS setup plan) i) (sumN (pU unit plan) i) (sumN (pH need hold plan) i)) (sumN (pS setup plan) need.length, sumN (pU unit plan) need.length, sumN (pH need hold plan) need.length)
  | 0, i, h => by
    refine Ev.step (fun k => spec_l2Parts.l0.eq_2 ..) ?_
    have := P.len
    exact Ev.neg (by omega) ((Ev.now _).to (by rw [show i = need.length by omega]))
  | d + 1, i, h => by
    have hi : i < need.length := by omega
    have ih := l2Parts_l0 d (i + 1) (by omega)
    have hl := P.len; have l1 := L.ls; have l2 := L.lu; have l3 := L.lh; have hn := L.n
    have hb := sums_bound L P (i := i) (by omega); have hpb := part_bound L P hi
    refine Ev.step (fun k => spec_l2Parts.l0.eq_2 ..) ?_
    refine Ev.pos (by omega) (Ev.pos (by omega) ?_)
    simp only [rd_nat]
    have eu : unit.getD i 0 * plan.getD i 0 = pU unit plan i := rfl
    have eh : hold.getD i 0 * stk need plan (i + 1) = pH need hold plan i := rfl
    rw [stkL_get hi, stkL_len, eu, eh, wr (n := pU unit plan i) (by omega) (by omega), wr (n := pH need hold plan i) (by omega) (by omega), wr (n := sumN (pU unit plan) i + pU unit plan i) (by omega) (by omega), wr (n := sumN (pH need hold plan) i + pH need hold plan i) (by omega) (by omega), wrS (by omega)]
    by_cases hp : plan.getD i 0 > 0
    · have e1 : pS setup plan i = setup.getD i 0 := by unfold pS; rw [if_pos hp]
      rw [← e1, wr (n := sumN (pS setup plan) i + pS setup plan i) (by omega) (by omega)]
      refine Ev.pos hp (Ev.pos (by omega) (Ev.pos (by omega) (Ev.pos (by omega) (Ev.pos (by omega) ?_))))
      exact ih
    · have e1 : pS setup plan i = 0 := by unfold pS; rw [if_neg (by omega)]
      refine Ev.neg hp (Ev.pos (by omega) (Ev.pos (by omega) (Ev.pos (by omega) ?_)))
      have e2 : sumN (pS setup plan) (i + 1) = sumN (pS setup plan) i := by simp only [sumN]; omega
      rw [e2] at ih; exact ih
theorem l2Cost_ev : Ev (fun k => spec_l2Cost.f k need setup unit hold plan) (lcost need setup unit hold plan) := by
  unfold spec_l2Cost.f spec_l2Parts.f
  have h0 := l2Parts_l0 L P need.length 0 (by omega)
  have hb := sums_bound L P (i := need.length) (Nat.le_refl _)
  refine Ev.bind (Ev.bind (l2Stocks_ev L P setup unit hold) h0) ((Ev.now _).to ?_)
  dsimp only
  rw [wr (n := sumN (pS setup plan) need.length + sumN (pU unit plan) need.length) (by omega) (by omega), wr (by omega) (by omega)]; rfl
end
theorem planOf_is {need : List Int} (hn : need.length ≤ 8) (hneed : ∀ x ∈ need, 0 ≤ x ∧ x ≤ 20) {O : Nat → Bool} (hc : cover need O) : PlanIs need (planOf need O) := by
  refine ⟨planOf_len _ _, fun x hx => ?_, fun t ht => ?_⟩
  · obtain ⟨i, hi, e⟩ := List.getElem_of_mem hx
    have hi' : i < need.length := by rw [planOf_len] at hi; exact hi
    have h0 := planOf_get need O hi'
    rw [List.getD_eq_getElem?_getD, List.getElem?_eq_getElem hi, Option.getD_some, e] at h0
    rw [h0]
    split
    · have h1 := nxt_ge O need.length (i + 1); have h2 := nxt_le O (n := need.length) (t := i + 1) (by omega)
      have h3 := dsum_mono need (fun x hx => (hneed x hx).1) i (nxt O need.length (i + 1)) (by omega) h2
      have h4 := dsum_bound need 20 hneed i (by omega)
      have h5 := dsum_bound need 20 hneed (nxt O need.length (i + 1)) h2
      omega
    · omega
  · rw [dsum_planOf need O hc t ht]
    exact dsum_mono need (fun x hx => (hneed x hx).1) _ _ (nxt_ge _ _ _) (nxt_le _ ht)
def beforeB (a b : List Int) : Bool := decide (a.length < b.length) || (decide (a.length = b.length) && decide (cmpL a b < 0))
theorem l2Before_l0 (a b : List Int) (hab : a.length = b.length) (hl : a.length < 4611686018427387904) : ∀ d i, i + d = a.length → Ev (fun k => spec_l2Before.l0 k a b (i : Int)) (decide (cmpL (a.drop i) (b.drop i) < 0))
  | 0, i, h => by
    refine Ev.step (fun k => spec_l2Before.l0.eq_2 ..) ?_
    refine Ev.neg (by omega) ((Ev.now _).to ?_)
    rw [List.drop_of_length_le (l := a) (by omega), List.drop_of_length_le (l := b) (by omega)]; rfl
  | d + 1, i, h => by
    refine Ev.step (fun k => spec_l2Before.l0.eq_2 ..) ?_
    refine Ev.pos (by omega) (Ev.pos (by omega) (Ev.pos (by omega) ?_))
    have ec : cmpL (a.drop i) (b.drop i) = if a.getD i 0 < b.getD i 0 then -1 else if a.getD i 0 > b.getD i 0 then 1 else cmpL (a.drop (i + 1)) (b.drop (i + 1)) := by
      rw [drop_cons a 0 (by omega), drop_cons b 0 (by omega)]; rfl
    rw [ec, rd_nat, rd_nat]
    by_cases he : a.getD i 0 = b.getD i 0
    · refine Ev.pos he ?_
      rw [if_neg (by omega), if_neg (by omega), wrS (by omega)]
      exact l2Before_l0 a b hab hl d (i + 1) (by omega)
    · refine Ev.neg he ((Ev.now _).to ?_)
      by_cases h1 : a.getD i 0 < b.getD i 0
      · rw [if_pos h1, decide_eq_true h1]; rfl
      · rw [if_neg h1, if_pos (by omega), decide_eq_false h1]; rfl
theorem l2Before_ev (a b : List Int) (hl : a.length < 4611686018427387904) : Ev (fun k => spec_l2Before.f k a b) (beforeB a b) := by
  unfold spec_l2Before.f beforeB
  by_cases h : a.length = b.length
  · refine Ev.pos (by omega) ((l2Before_l0 a b h hl a.length 0 (by omega)).to ?_)
    rw [decide_eq_false (show ¬ a.length < b.length by omega), decide_eq_true h]; simp
  · refine Ev.neg (by omega) ((Ev.now _).to ?_)
    rw [decide_eq_false h]; simp
def lotOf (need setup unit hold : List Int) (code : Nat) : Int := lcost need setup unit hold (planOf need (Ob code))
def pickStep (need setup unit hold : List Int) (st : Option (Nat × Int)) (code : Nat) : Option (Nat × Int) :=
  if cover need (Ob code) then
    match st with
    | none => some (code, lotOf need setup unit hold code)
    | some (c, v) => if lotOf need setup unit hold code < v ∨ (lotOf need setup unit hold code = v ∧ beforeB (per (Ob code) need.length) (per (Ob c) need.length) = true) then some (code, lotOf need setup unit hold code) else some (c, v)
  else st
def pick (need setup unit hold : List Int) : Nat → Option (Nat × Int)
  | 0 => none
  | c + 1 => pickStep need setup unit hold (pick need setup unit hold c) c
def told1 (n : Nat) : Option (Nat × Int) → List Int × Int
  | none => ([], -1)
  | some (c, v) => (per (Ob c) n, v)
theorem pick_spec {need setup unit hold : List Int} (L : Lots need setup unit hold) : ∀ c,
    match pick need setup unit hold c with
    | none => ∀ code, code < c → ¬ cover need (Ob code)
    | some (b, v) => b < c ∧ cover need (Ob b) ∧ v = lotOf need setup unit hold b ∧ 0 ≤ v ∧ ∀ code, code < c → cover need (Ob code) → v ≤ lotOf need setup unit hold code
  | 0 => fun _ h => by omega
  | c + 1 => by
    have ih := pick_spec L c
    simp only [pick]
    generalize pick need setup unit hold c = st at ih ⊢
    unfold pickStep
    by_cases hc : cover need (Ob c)
    · rw [if_pos hc]
      have hnn : 0 ≤ lotOf need setup unit hold c := lcost_nonneg L (planOf_is L.n L.need hc)
      rcases st with _ | ⟨b, v⟩
      · dsimp only at ih ⊢
        refine ⟨by omega, hc, rfl, hnn, fun code h1 h2 => ?_⟩
        rcases Nat.eq_or_lt_of_le (Nat.le_of_lt_succ h1) with e | e
        · subst e; exact Int.le_refl _
        · exact absurd h2 (ih code e)
      · dsimp only at ih ⊢
        obtain ⟨i1, i2, i3, i4, i5⟩ := ih
        by_cases h0 : lotOf need setup unit hold c < v ∨ (lotOf need setup unit hold c = v ∧ beforeB (per (Ob c) need.length) (per (Ob b) need.length) = true)
        · rw [if_pos h0]
          dsimp only
          refine ⟨by omega, hc, rfl, hnn, fun code h1 h2 => ?_⟩
          rcases Nat.eq_or_lt_of_le (Nat.le_of_lt_succ h1) with e | e
          · subst e; exact Int.le_refl _
          · have := i5 code e h2; omega
        · rw [if_neg h0]
          dsimp only
          refine ⟨by omega, i2, i3, i4, fun code h1 h2 => ?_⟩
          rcases Nat.eq_or_lt_of_le (Nat.le_of_lt_succ h1) with e | e
          · subst e; omega
          · exact i5 code e h2
    · rw [if_neg hc]
      rcases st with _ | ⟨b, v⟩
      · dsimp only at ih ⊢
        intro code h1
        rcases Nat.eq_or_lt_of_le (Nat.le_of_lt_succ h1) with e | e
        · subst e; exact hc
        · exact ih code e
      · dsimp only at ih ⊢
        obtain ⟨i1, i2, i3, i4, i5⟩ := ih
        refine ⟨by omega, i2, i3, i4, fun code h1 h2 => ?_⟩
        rcases Nat.eq_or_lt_of_le (Nat.le_of_lt_succ h1) with e | e
        · subst e; exact absurd h2 hc
        · exact i5 code e h2
theorem shl_pow {n : Nat} (h : n ≤ 8) : shl .i64 1 (n : Int) = ((2 ^ n : Nat) : Int) := by
  have : ∀ m : Fin 9, shl .i64 1 ((m : Nat) : Int) = ((2 ^ (m : Nat) : Nat) : Int) := by decide
  exact this ⟨n, by omega⟩
theorem pow2_le {n : Nat} (h : n ≤ 8) : 2 ^ n ≤ 256 := Nat.le_trans (Nat.pow_le_pow_right (by omega) h) (by decide)
section
variable {need setup unit hold : List Int} (L : Lots need setup unit hold)
include L
theorem Lots.big : ∀ x ∈ need, 0 ≤ x ∧ x ≤ 1000000 := fun x hx => by have := L.need x hx; omega
omit L in
theorem best_j3 (code : Nat) (R : List Int × Int) (st : Option (Nat × Int)) (b : Bool) (v : Int) (hcode : code < 256)
    (h : Ev (fun k => impl_Case_best.l0 k (told1 need.length (if b = true then some (code, v) else st)).1 (told1 need.length (if b = true then some (code, v) else st)).2 ((2 ^ need.length : Nat) : Int) ((code + 1 : Nat) : Int) need setup unit hold) R) :
    Ev (fun k => impl_Case_best.j3 k (told1 need.length st).1 (told1 need.length st).2 (per (Ob code) need.length) v ((2 ^ need.length : Nat) : Int) (code : Int) b need setup unit hold) R := by
  refine Ev.step (fun k => impl_Case_best.j3.eq_2 ..) ?_
  rw [wrS (by omega)]
  cases b with
  | true => exact Ev.pos rfl h
  | false => exact Ev.neg (by simp) h
theorem best_l1 (code : Nat) (st : Option (Nat × Int)) (hst : ∀ c v, st = some (c, v) → 0 ≤ v) (hcode : code < 256) (R : List Int × Int)
    (h : Ev (fun k => impl_Case_best.l0 k (told1 need.length (pickStep need setup unit hold st code)).1 (told1 need.length (pickStep need setup unit hold st code)).2 ((2 ^ need.length : Nat) : Int) ((code + 1 : Nat) : Int) need setup unit hold) R) : ∀ d i, i + d = need.length →
    Ev (fun k => impl_Case_best.l1 k (told1 need.length st).1 (told1 need.length st).2 (code : Int) (per (Ob code) i) ((2 ^ need.length : Nat) : Int) (code : Int) (need.length : Int) (i : Int) need setup unit hold) R
  | 0, i, hi => by
    have hi : i = need.length := by omega
    subst hi
    have hn := L.n
    refine Ev.step (fun k => impl_Case_best.l1.eq_2 ..) ?_
    refine Ev.neg (by omega) (Ev.bind (planFrom_ev need setup unit hold (Ob code) (by omega) L.big) ?_)
    by_cases hc : cover need (Ob code)
    · rw [if_pos hc]
      refine Ev.pos rfl (Ev.bind (lotcost_ev L (planOf_is L.n L.need hc)) ?_)
      have hcl : Ev (fun k => impl_Case_best.j2 k (told1 need.length st).1 (told1 need.length st).2 (per (Ob code) need.length) (lotOf need setup unit hold code) (beforeB (per (Ob code) need.length) (told1 need.length st).1) ((2 ^ need.length : Nat) : Int) (code : Int) need setup unit hold) R := by
        refine Ev.step (fun k => impl_Case_best.j2.eq_2 ..) ?_
        rcases st with _ | ⟨c, v⟩
        · have e : pickStep need setup unit hold none code = some (code, lotOf need setup unit hold code) := by unfold pickStep; rw [if_pos hc]
          rw [e] at h
          exact Ev.pos (by simp [told1]) (best_j3 code R none true _ hcode h)
        · have hv := hst c v rfl
          have e : pickStep need setup unit hold (some (c, v)) code = if lotOf need setup unit hold code < v ∨ (lotOf need setup unit hold code = v ∧ beforeB (per (Ob code) need.length) (per (Ob c) need.length) = true) then some (code, lotOf need setup unit hold code) else some (c, v) := by unfold pickStep; rw [if_pos hc]
          rw [e] at h
          refine Ev.neg (by simp [told1]; omega) ?_
          by_cases h1 : lotOf need setup unit hold code < v
          · rw [if_pos (.inl h1)] at h
            exact Ev.pos h1 (best_j3 code R (some (c, v)) true _ hcode h)
          · refine Ev.neg h1 ?_
            by_cases h2 : lotOf need setup unit hold code = v
            · refine Ev.pos h2 ?_
              refine best_j3 code R (some (c, v)) _ _ hcode ?_
              have e2 : (if lotOf need setup unit hold code < v ∨ (lotOf need setup unit hold code = v ∧ beforeB (per (Ob code) need.length) (per (Ob c) need.length) = true) then some (code, lotOf need setup unit hold code) else some (c, v)) = if beforeB (per (Ob code) need.length) (told1 need.length (some (c, v))).1 = true then some (code, lotOf need setup unit hold code) else some (c, v) := by
                by_cases h3 : beforeB (per (Ob code) need.length) (per (Ob c) need.length) = true
                · rw [if_pos (.inr ⟨h2, h3⟩)]; exact (if_pos h3).symm
                · rw [if_neg (by rintro (h4 | h4); exact h1 h4; exact h3 h4.2)]; exact (if_neg h3).symm
              rw [e2] at h; exact h
            · rw [if_neg (by rintro (h4 | h4); exact h1 h4; exact h2 h4.1)] at h
              exact Ev.neg h2 (best_j3 code R (some (c, v)) false _ hcode h)
      unfold beforeB at hcl
      by_cases h1 : (per (Ob code) need.length).length < (told1 need.length st).1.length
      · rw [decide_eq_true h1, Bool.true_or] at hcl
        exact Ev.pos (by omega) hcl
      · rw [decide_eq_false h1, Bool.false_or] at hcl
        refine Ev.neg (by omega) ?_
        by_cases h2 : (per (Ob code) need.length).length = (told1 need.length st).1.length
        · rw [decide_eq_true h2, Bool.true_and] at hcl
          have hpl := per_len_le (Ob code) need.length
          exact Ev.pos (by omega) (Ev.bind (Compare_ev _ _ (by omega)) hcl)
        · rw [decide_eq_false h2, Bool.false_and] at hcl
          exact Ev.neg (by omega) hcl
    · rw [if_neg hc]
      refine Ev.neg (by simp) ?_
      rw [wrS (by omega)]
      have e : pickStep need setup unit hold st code = st := by unfold pickStep; rw [if_neg hc]
      rw [e] at h; exact h
  | d + 1, i, hi => by
    have hn := L.n
    have ih := best_l1 code st hst hcode R h d (i + 1) (by omega)
    refine Ev.step (fun k => impl_Case_best.l1.eq_2 ..) ?_
    refine Ev.pos (by omega) (Ev.pos (by omega) ?_)
    rw [wrS (by omega)]
    rw [per_succ (Ob code) i] at ih
    by_cases hb : (Go.bits .and .i64 (shr .i64 (code : Int) (i : Int)) 1) = 1
    · have e : Ob code i = true := by unfold Ob; rw [decide_eq_true hb]
      rw [e, if_pos rfl] at ih
      refine Ev.pos hb (Ev.pos ?_ ih)
      have := per_len_le (Ob code) i
      omega
    · have e : Ob code i = false := by unfold Ob; rw [decide_eq_false hb]
      rw [e] at ih
      simp only [Bool.false_eq_true, if_false, List.append_nil] at ih
      exact Ev.neg hb ih
theorem pick_pos (c : Nat) : ∀ b v, pick need setup unit hold c = some (b, v) → 0 ≤ v := by
  intro b v h
  have := pick_spec L c
  rw [h] at this; exact this.2.2.2.1
theorem best_l0 : ∀ d c, c + d = 2 ^ need.length →
    Ev (fun k => impl_Case_best.l0 k (told1 need.length (pick need setup unit hold c)).1 (told1 need.length (pick need setup unit hold c)).2 ((2 ^ need.length : Nat) : Int) (c : Int) need setup unit hold) (told1 need.length (pick need setup unit hold (2 ^ need.length)))
  | 0, c, h => by
    refine Ev.step (fun k => impl_Case_best.l0.eq_2 ..) ?_
    exact Ev.neg (by omega) ((Ev.now _).to (by rw [show c = 2 ^ need.length by omega]))
  | d + 1, c, h => by
    have ih := best_l0 d (c + 1) (by omega)
    have hp := pow2_le L.n
    refine Ev.step (fun k => impl_Case_best.l0.eq_2 ..) ?_
    refine Ev.pos (by omega) ?_
    exact best_l1 L c (pick need setup unit hold c) (pick_pos L c) (by omega) _ ih need.length 0 (by omega)
theorem best_ev : Ev (fun k => impl_Case_best.f k need setup unit hold) (told1 need.length (pick need setup unit hold (2 ^ need.length))) := by
  unfold impl_Case_best.f
  rw [shl_pow L.n]
  exact best_l0 L (2 ^ need.length) 0 (by omega)
theorem l2Best_l0 : ∀ d c, c + d = 2 ^ need.length →
    Ev (fun k => spec_l2Best.l0 k (told1 need.length (pick need setup unit hold c)).1 (told1 need.length (pick need setup unit hold c)).2 (c : Int) need setup unit hold) (told1 need.length (pick need setup unit hold (2 ^ need.length))).1
  | 0, c, h => by
    refine Ev.step (fun k => spec_l2Best.l0.eq_2 ..) ?_
    rw [shl_pow L.n]
    exact Ev.neg (by omega) ((Ev.now _).to (by rw [show c = 2 ^ need.length by omega]))
  | d + 1, c, h => by
    have ih := l2Best_l0 d (c + 1) (by omega)
    have hp := pow2_le L.n; have hn := L.n
    have hst := pick_pos L c
    simp only [pick] at ih
    generalize pick need setup unit hold c = st at ih hst ⊢
    refine Ev.step (fun k => spec_l2Best.l0.eq_2 ..) ?_
    rw [shl_pow L.n]
    refine Ev.pos (by omega) (Ev.bind (l2Bits_ev need.length c L.n) (Ev.bind (l2Covers_ev need setup unit hold (Ob c) (by omega) L.big) ?_))
    rw [wrS (by omega)]
    by_cases hc : cover need (Ob c)
    · refine Ev.pos (by simpa using hc) (Ev.bind (l2From_ev need setup unit hold (Ob c) (by omega) L.big) (Ev.bind (l2Cost_ev L (planOf_is L.n L.need hc)) ?_))
      have hj : ∀ b, Ev (fun k => spec_l2Best.l0 k (told1 need.length (if b = true then some (c, lotOf need setup unit hold c) else st)).1 (told1 need.length (if b = true then some (c, lotOf need setup unit hold c) else st)).2 ((c + 1 : Nat) : Int) need setup unit hold) (told1 need.length (pick need setup unit hold (2 ^ need.length))).1 →
          Ev (fun k => spec_l2Best.j1 k (told1 need.length st).1 (told1 need.length st).2 (c : Int) (per (Ob c) need.length) (lotOf need setup unit hold c) b need setup unit hold) (told1 need.length (pick need setup unit hold (2 ^ need.length))).1 := by
        intro b h
        refine Ev.step (fun k => spec_l2Best.j1.eq_2 ..) ?_
        rw [wrS (by omega)]
        cases b with
        | true => exact Ev.pos rfl h
        | false => exact Ev.neg (by simp) h
      rcases st with _ | ⟨b, v⟩
      · have e : pickStep need setup unit hold none c = some (c, lotOf need setup unit hold c) := by unfold pickStep; rw [if_pos hc]
        rw [e] at ih
        exact Ev.pos (by simp [told1]) (hj true ih)
      · have hv := hst b v rfl
        have e : pickStep need setup unit hold (some (b, v)) c = if lotOf need setup unit hold c < v ∨ (lotOf need setup unit hold c = v ∧ beforeB (per (Ob c) need.length) (per (Ob b) need.length) = true) then some (c, lotOf need setup unit hold c) else some (b, v) := by unfold pickStep; rw [if_pos hc]
        rw [e] at ih
        refine Ev.neg (by simp [told1]; omega) ?_
        by_cases h1 : lotOf need setup unit hold c < v
        · rw [if_pos (.inl h1)] at ih
          exact Ev.pos h1 (hj true ih)
        · refine Ev.neg h1 ?_
          by_cases h2 : lotOf need setup unit hold c = v
          · have hpl := per_len_le (Ob c) need.length
            refine Ev.pos h2 (Ev.bind (l2Before_ev _ _ (by omega)) ?_)
            refine hj _ ?_
            have e2 : (if lotOf need setup unit hold c < v ∨ (lotOf need setup unit hold c = v ∧ beforeB (per (Ob c) need.length) (per (Ob b) need.length) = true) then some (c, lotOf need setup unit hold c) else some (b, v)) = if beforeB (per (Ob c) need.length) (told1 need.length (some (b, v))).1 = true then some (c, lotOf need setup unit hold c) else some (b, v) := by
              by_cases h3 : beforeB (per (Ob c) need.length) (per (Ob b) need.length) = true
              · rw [if_pos (.inr ⟨h2, h3⟩)]; exact (if_pos h3).symm
              · rw [if_neg (by rintro (h4 | h4); exact h1 h4; exact h3 h4.2)]; exact (if_neg h3).symm
            rw [e2] at ih; exact ih
          · rw [if_neg (by rintro (h4 | h4); exact h1 h4; exact h2 h4.1)] at ih
            exact Ev.neg h2 (hj false ih)
    · have e : pickStep need setup unit hold st c = st := by unfold pickStep; rw [if_neg hc]
      rw [e] at ih
      exact Ev.neg (by simpa using hc) ih
theorem l2Best_ev : Ev (fun k => spec_l2Best.f k need setup unit hold) (told1 need.length (pick need setup unit hold (2 ^ need.length))).1 := by
  unfold spec_l2Best.f
  exact l2Best_l0 L (2 ^ need.length) 0 (by omega)
theorem pick_some : ∃ b, pick need setup unit hold (2 ^ need.length) = some (b, lotOf need setup unit hold b) ∧ cover need (Ob b) ∧ b < 2 ^ need.length ∧ ∀ code, code < 2 ^ need.length → cover need (Ob code) → lotOf need setup unit hold b ≤ lotOf need setup unit hold code := by
  have h := pick_spec L (2 ^ need.length)
  cases hp : pick need setup unit hold (2 ^ need.length) with
  | none =>
    rw [hp] at h; dsimp only at h
    exfalso
    by_cases h0 : need.length = 0
    · refine h 0 (Nat.pos_of_ne_zero (by simp)) ?_
      unfold cover; rw [h0, nxt_n]; exact dsum_zero _
    · refine h 1 ?_ ?_
      · have := Nat.pow_le_pow_right (n := 2) (by omega) (show 1 ≤ need.length by omega); omega
      · unfold cover
        rw [nxt_self (Ob 1) (by decide)]; exact dsum_zero _
  | some x =>
    obtain ⟨b, v⟩ := x
    rw [hp] at h; dsimp only at h
    obtain ⟨h1, h2, h3, h4, h5⟩ := h
    subst h3
    exact ⟨b, rfl, h2, h1, h5⟩
end
def bestCode (need setup unit hold : List Int) : Nat := match pick need setup unit hold (2 ^ need.length) with
  | some (c, _) => c
  | none => 0
theorem bestCode_spec {need setup unit hold : List Int} (L : Lots need setup unit hold) : told1 need.length (pick need setup unit hold (2 ^ need.length)) = (per (Ob (bestCode need setup unit hold)) need.length, lotOf need setup unit hold (bestCode need setup unit hold)) ∧ cover need (Ob (bestCode need setup unit hold)) := by
  obtain ⟨b, h1, h2, _⟩ := pick_some L
  unfold bestCode
  rw [h1]; exact ⟨rfl, h2⟩
end Go.Proofs.Ythlmmcmpllgflaa.P
